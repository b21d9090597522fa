import PyProof.Rows.All
import Wide.All
import OpenK.AllK
import Wide.FinOn
import HandS.ForMost
import HandS.HeadHook1
import HandS.Deep
import HandS.TupAny
import HandS.TupMul
import HandS.Wide
import HandS.IsInst
import HandS.SortInts
import HandS.ForExc
import HandS.CallSlots
import HandS.Defaults
import HandS.SetFor
import HandS.Strs
import HandS.More
import PyProof.Rows.SetFrom
import HandS.HeadHook3
import HandS.HeadHook4
import HandS.Head0
import HandS.Head1
import HandS.Head2
import HandS.HeadEnd
import HandS.SortKw
import HandS.AnyAll
import HandS.Zip
import HandS.Conv
import KE.GoesZip
import KE.GoesMore
import KE.GoesEnum
import HandS.ExcInit
import HandS.ExcField
import KE.KExcIs
import KE.KIndexOf
import KE.KEqNest
import PyProof.NeKinds
import PyProof.WalksMore
import HandS.Remove
import HandS.Rev
import PySem.Challenge.RW_widenrows_k73_places_that_are_none
set_option Elab.async false
set_option linter.all false
set_option maxRecDepth 100000
set_option maxHeartbeats 4000000
/-! Own layer: values as pure data, own (mutable) data by footprint. -/
namespace Py
open PySem PySem.Spec PyProof.Rows L2

/-- pure data -/
inductive D where
  | non | bl (b : Bool) | int (i : Int) | str (x : Str)
  | tup (xs : List D) | lst (xs : List D)
  | dic (ks : List Key) (xs : List D)
  | dct (ks : List (List Key)) (xs : List D)
  | ins (c : Nat) (fs : List Str) (xs : List D)
  | obj (c : Str) (fs : List Str) (xs : List D)
  deriving Inhabited

mutual
/-- v stands for d, all that is reached lies in G -/
inductive Rep (K : PySem.W.Frag) (G : Hp) : V → D → Prop
  | non : Rep K G .non .non
  | bl (b : Bool) : Rep K G (.bl b) (.bl b)
  | int (i : Int) : Rep K G (.int i) (.int i)
  | str (x : Str) : Rep K G (.str x) (.str x)
  | tup {a : Addr} {xs : List V} {ds : List D} : SqT K G a xs → Reps K G xs ds → Rep K G (.ref a) (.tup ds)
  | lst {a : Addr} {xs : List V} {ds : List D} : SqL K G a xs → Reps K G xs ds → Rep K G (.ref a) (.lst ds)
  | dic {a : Addr} {ks : List Key} {xs : List V} {ds : List D} : G a = some (.dK (ks.zip xs)) → ks.length = xs.length → Reps K G xs ds → Rep K G (.ref a) (.dic ks ds)
  | exc {a dd : Addr} {v : V} {d : D} : G dd = some (.xd [("at", v)]) → Rep K G v d → Rep K G (.ref a) (.ins a ["at"] [.int (dd : Nat), d])
  | exn {a : Addr} : Rep K G (.ref a) (.ins a [] [])
  | obj {a dx : Addr} {c : Str} {fs : List Str} {xs : List V} {ds : List D} : G a = some (.ins (He.ga K c) dx (fs.zip xs)) → fs.length = xs.length → Reps K G xs ds → Rep K G (.ref a) (.obj c fs ds)
inductive Reps (K : PySem.W.Frag) (G : Hp) : List V → List D → Prop
  | nil : Reps K G [] []
  | cons {v : V} {vs : List V} {d : D} {ds : List D} : Rep K G v d → Reps K G vs ds → Reps K G (v :: vs) (d :: ds)
end

def Sub (G G' : Hp) : Prop := ∀ b o, G b = some o → G' b = some o
theorem Sub.refl {G : Hp} : Sub G G := fun _ _ h => h
theorem Sub.trans {G G1 G2 : Hp} (a : Sub G G1) (b : Sub G1 G2) : Sub G G2 := fun c o h => b c o (a c o h)
theorem Sub.sqL {K : PySem.W.Frag} {G G' : Hp} {a : Addr} {xs : List V} (e : Sub G G') (h : SqL K G a xs) : SqL K G' a xs := by
  rcases h with (h | ⟨o, h⟩) | h
  · exact .inl (.inl (e _ _ h))
  · exact .inl (.inr ⟨o, e _ _ h⟩)
  · exact .inr h
theorem Sub.sqT {K : PySem.W.Frag} {G G' : Hp} {a : Addr} {xs : List V} (e : Sub G G') (h : SqT K G a xs) : SqT K G' a xs := by
  rcases h with (h | ⟨o, h⟩) | h
  · exact .inl (.inl (e _ _ h))
  · exact .inl (.inr ⟨o, e _ _ h⟩)
  · exact .inr h
theorem Sub.upd {G : Hp} {p : Addr} {o : HO} (h : G p = none) : Sub G (upd G p o) := fun b x e => by
  rw [upd_ne (ne_of_none e h)]
  exact e

mutual
theorem Rep.mono {K : PySem.W.Frag} {G G' : Hp} (s : Sub G G') : ∀ {v : V} {d : D}, Rep K G v d → Rep K G' v d
  | _, _, .non => .non
  | _, _, .bl b => .bl b
  | _, _, .int i => .int i
  | _, _, .str x => .str x
  | _, _, .tup h r => .tup (s.sqT h) (Reps.mono s r)
  | _, _, .lst h r => .lst (s.sqL h) (Reps.mono s r)
  | _, _, .dic h l r => .dic (s _ _ h) l (Reps.mono s r)
  | _, _, .exc h r => .exc (s _ _ h) (Rep.mono s r)
  | _, _, .exn => .exn
  | _, _, .obj h l r => .obj (s _ _ h) l (Reps.mono s r)
theorem Reps.mono {K : PySem.W.Frag} {G G' : Hp} (s : Sub G G') : ∀ {v : List V} {d : List D}, Reps K G v d → Reps K G' v d
  | _, _, .nil => .nil
  | _, _, .cons h r => .cons (Rep.mono s h) (Reps.mono s r)
end
theorem Reps.length {K : PySem.W.Frag} {G : Hp} : ∀ {v : List V} {d : List D}, Reps K G v d → v.length = d.length
  | _, _, .nil => rfl
  | _, _, .cons _ r => by rw [List.length_cons, List.length_cons, Reps.length r]
theorem Reps.get {K : PySem.W.Frag} {G : Hp} : ∀ {v : List V} {d : List D}, Reps K G v d → ∀ {i : Nat} {x : D}, d[i]? = some x → ∃ y, v[i]? = some y ∧ Rep K G y x
  | _, _, .nil, _, _, h => by simp at h
  | _, _, .cons r _, 0, _, h => by simp at h; subst h; exact ⟨_, rfl, r⟩
  | _, _, .cons _ t, i + 1, _, h => by
    obtain ⟨y, h1, h2⟩ := Reps.get t (i := i) (by simpa using h)
    exact ⟨y, by simpa using h1, h2⟩
theorem Reps.getV {K : PySem.W.Frag} {G : Hp} : ∀ {v : List V} {d : List D}, Reps K G v d → ∀ {i : Nat} {y : V}, v[i]? = some y → ∃ x, d[i]? = some x ∧ Rep K G y x
  | _, _, .nil, _, _, h => by simp at h
  | _, _, .cons r _, 0, _, h => by simp at h; subst h; exact ⟨_, rfl, r⟩
  | _, _, .cons _ t, i + 1, _, h => by
    obtain ⟨y, h1, h2⟩ := Reps.getV t (i := i) (by simpa using h)
    exact ⟨y, by simpa using h1, h2⟩
theorem Reps.append {K : PySem.W.Frag} {G : Hp} : ∀ {v w : List V} {d e : List D}, Reps K G v d → Reps K G w e → Reps K G (v ++ w) (d ++ e)
  | _, _, _, _, .nil, s => s
  | _, _, _, _, .cons r t, s => .cons r (Reps.append t s)
theorem Reps.take {K : PySem.W.Frag} {G : Hp} : ∀ {v : List V} {d : List D} (n : Nat), Reps K G v d → Reps K G (v.take n) (d.take n)
  | _, _, 0, _ => .nil
  | _, _, _ + 1, .nil => .nil
  | _, _, n + 1, .cons r t => .cons r (Reps.take n t)
theorem Reps.drop {K : PySem.W.Frag} {G : Hp} : ∀ {v : List V} {d : List D} (n : Nat), Reps K G v d → Reps K G (v.drop n) (d.drop n)
  | _, _, 0, h => h
  | _, _, _ + 1, .nil => .nil
  | _, _, n + 1, .cons _ t => Reps.drop n t
theorem Reps.set {K : PySem.W.Frag} {G : Hp} {x : V} {e : D} (q : Rep K G x e) : ∀ {v : List V} {d : List D} (n : Nat), Reps K G v d → Reps K G (v.set n x) (d.set n e)
  | _, _, _, .nil => .nil
  | _, _, 0, .cons r t => .cons q t
  | _, _, n + 1, .cons r t => .cons r (Reps.set q n t)
theorem Reps.eraseIdx {K : PySem.W.Frag} {G : Hp} : ∀ {v : List V} {d : List D} (n : Nat), Reps K G v d → Reps K G (v.eraseIdx n) (d.eraseIdx n)
  | _, _, _, .nil => .nil
  | _, _, 0, .cons r t => t
  | _, _, n + 1, .cons r t => .cons r (Reps.eraseIdx n t)
theorem Reps.rep {K : PySem.W.Frag} {G : Hp} {v : List V} {d : List D} (h : Reps K G v d) : ∀ k : Nat, Reps K G (List.replicate k v).flatten (List.replicate k d).flatten
  | 0 => .nil
  | k + 1 => by
    rw [List.replicate_succ, List.replicate_succ, List.flatten_cons, List.flatten_cons]
    exact Reps.append h (Reps.rep h k)

/-! ### flat and immutable data -/
def D.flat : D → Bool
  | .non | .bl _ | .int _ | .str _ => true
  | _ => false
theorem Rep.flat {K : PySem.W.Frag} {G G' : Hp} {v : V} {d : D} (h : Rep K G v d) (f : d.flat = true) : Rep K G' v d := by
  cases h <;> first | (cases f; done) | constructor
mutual
/-- only flat things and tuples of such -/
def D.imm : D → Bool
  | .non | .bl _ | .int _ | .str _ => true
  | .tup ds => D.imms ds
  | _ => false
def D.imms : List D → Bool
  | [] => true
  | d :: ds => d.imm && D.imms ds
end

/-- no list -/
def D.nl : D → Bool
  | .lst _ => false
  | _ => true

/-! ### hidden addresses -/
def hid (O : List Addr) (H : Hp) : Hp := fun b => if b ∈ O then none else H b
theorem hid_of {O : List Addr} {H : Hp} {b : Addr} (h : b ∉ O) : hid O H b = H b := if_neg h
theorem hid_in {O : List Addr} {H : Hp} {b : Addr} (h : b ∈ O) : hid O H b = none := if_pos h
theorem hid_some {O : List Addr} {H : Hp} {b : Addr} {o : HO} (h : hid O H b = some o) : b ∉ O ∧ H b = some o := by
  by_cases hb : b ∈ O
  · rw [hid_in hb] at h; cases h
  · rw [hid_of hb] at h; exact ⟨hb, h⟩
theorem hid_sub {O : List Addr} {H : Hp} : Sub (hid O H) H := fun _ _ h => (hid_some h).2
theorem hid_mono {O : List Addr} {H H' : Hp} (s : Sub H H') : Sub (hid O H) (hid O H') := fun b o h => by
  obtain ⟨h1, h2⟩ := hid_some h
  rw [hid_of h1]
  exact s b o h2
theorem hid_less {O O' : List Addr} {H : Hp} (s : ∀ b ∈ O', b ∈ O) : Sub (hid O H) (hid O' H) := fun b o h => by
  obtain ⟨h1, h2⟩ := hid_some h
  rw [hid_of (fun z => h1 (s b z))]
  exact h2
theorem hid_upd {O : List Addr} {H : Hp} {p : Addr} {o : HO} (h : p ∉ O) : hid O (upd H p o) = upd (hid O H) p o := by
  funext b
  unfold hid upd
  by_cases hb : b = p
  · subst hb; rw [if_neg h, if_pos rfl, if_pos rfl]
  · rw [if_neg hb, if_neg hb]
theorem hid_updin {O : List Addr} {H : Hp} {p : Addr} {o : HO} (h : p ∈ O) : hid O (upd H p o) = hid O H := by
  funext b
  unfold hid upd
  by_cases hb : b ∈ O
  · rw [if_pos hb, if_pos hb]
  · rw [if_neg hb, if_neg hb, if_neg (fun z : b = p => hb (by rw [z]; exact h))]

/-- what an own address may hold -/
def NT (o : HO) : Prop := (∀ xs, o ≠ .tup xs) ∧ ∀ u v, o ≠ .frz u v
theorem nt_lst (xs : List V) : NT (.lst xs) := ⟨fun _ z => (nomatch z), fun _ _ z => (nomatch z)⟩
theorem nt_ins (C dx : Addr) (fs : List (Str × V)) : NT (.ins C dx fs) := ⟨fun _ z => (nomatch z), fun _ _ z => (nomatch z)⟩
theorem nt_own (x : Addr) : NT (.own x) := ⟨fun _ z => (nomatch z), fun _ _ z => (nomatch z)⟩
theorem nt_dK (kvs : List (Key × V)) : NT (.dK kvs) := ⟨fun _ z => (nomatch z), fun _ _ z => (nomatch z)⟩
mutual
theorem Rep.imm {K : PySem.W.Frag} {G : Hp} {O : List Addr} (hO : ∀ b ∈ O, ∀ o, G b = some o → NT o) : ∀ {v : V} {d : D}, Rep K G v d → d.imm = true → Rep K (hid O G) v d
  | _, _, .non, _ => .non
  | _, _, .bl b, _ => .bl b
  | _, _, .int i, _ => .int i
  | _, _, .str x, _ => .str x
  | _, _, .tup h r, f => by
    refine .tup ?_ (Reps.imms hO r (by simpa [D.imm] using f))
    rcases h with (h | ⟨o, h⟩) | h
    · exact .inl (.inl (by rw [hid_of fun z => (hO _ z _ h).1 _ rfl]; exact h))
    · exact .inl (.inr ⟨o, by rw [hid_of fun z => (hO _ z _ h).2 _ _ rfl]; exact h⟩)
    · exact .inr h
  | _, _, .lst h r, f => by simp [D.imm] at f
  | _, _, .dic _ h r, f => by simp [D.imm] at f
  | _, _, .exc h r, f => by simp [D.imm] at f
  | _, _, .exn, f => by simp [D.imm] at f
  | _, _, .obj _ _ _, f => by simp [D.imm] at f
theorem Reps.imms {K : PySem.W.Frag} {G : Hp} {O : List Addr} (hO : ∀ b ∈ O, ∀ o, G b = some o → NT o) : ∀ {v : List V} {d : List D}, Reps K G v d → D.imms d = true → Reps K (hid O G) v d
  | _, _, .nil, _ => .nil
  | _, _, .cons h r, f => by
    have f' := Bool.and_eq_true_iff.mp (show (D.imm _ && D.imms _) = true from f)
    exact .cons (Rep.imm hO h f'.1) (Reps.imms hO r f'.2)
end

/-! ### own trees -/
inductive Sh where
  | fz | li (e : Sh) | dk (e : Sh)
  /-- an own list of data, or what never changes -/
  | un
  /-- an own object of the class c; its fields: nf, fc -/
  | ob (c : Str) (r : Sh)
  | nf | fc (f : Str) (e : Sh) (r : Sh)
  deriving DecidableEq, Inhabited
def Sh.fld : Sh → Str → Sh
  | .fc f e r, g => if f = g then e else r.fld g
  | _, _ => .fz
mutual
/-- an own tree of the shape s: its root and its own parts stand in H at fp, its leaves in G -/
inductive Tr (K : PySem.W.Frag) (H G : Hp) : Sh → V → D → List Addr → Prop
  | fz {v : V} {d : D} : Rep K G v d → Tr K H G .fz v d []
  | li {e : Sh} {a : Addr} {vs : List V} {ds : List D} {fp : List Addr} : H a = some (.lst vs) → Trs K H G (List.replicate vs.length e) vs ds fp → Tr K H G (.li e) (.ref a) (.lst ds) (a :: fp)
  | dk {e : Sh} {a : Addr} {ks : List Key} {vs : List V} {ds : List D} {fp : List Addr} : H a = some (.dK (ks.zip vs)) → ks.length = vs.length → Trs K H G (List.replicate vs.length e) vs ds fp → Tr K H G (.dk e) (.ref a) (.dic ks ds) (a :: fp)
  | un1 {v : V} {d : D} {fp : List Addr} : Tr K H G (.li .fz) v d fp → Tr K H G .un v d fp
  | un2 {v : V} {d : D} : Rep K G v d → d.nl = true → Tr K H G .un v d []
  | ob {c : Str} {r : Sh} {a dx : Addr} {fs : List Str} {vs : List V} {ds : List D} {fp : List Addr} : H a = some (.ins (He.ga K c) dx (fs.zip vs)) → H dx = some (.own a) → fs.length = vs.length → Trs K H G (fs.map r.fld) vs ds fp → Tr K H G (.ob c r) (.ref a) (.obj c fs ds) (a :: dx :: fp)
inductive Trs (K : PySem.W.Frag) (H G : Hp) : List Sh → List V → List D → List Addr → Prop
  | nil : Trs K H G [] [] [] []
  | cons {e : Sh} {es : List Sh} {v : V} {vs : List V} {d : D} {ds : List D} {fp fq : List Addr} : Tr K H G e v d fp → Trs K H G es vs ds fq → Trs K H G (e :: es) (v :: vs) (d :: ds) (fp ++ fq)
end
mutual
/-- the parts stay, the leaves stay -/
theorem Tr.mono {K : PySem.W.Frag} {H H' G G' : Hp} (sG : Sub G G') : ∀ {s : Sh} {v : V} {d : D} {fp : List Addr}, Tr K H G s v d fp → (∀ b ∈ fp, ∀ o, H b = some o → H' b = some o) → Tr K H' G' s v d fp
  | _, _, _, _, .fz h, _ => .fz (h.mono sG)
  | _, _, _, _, .li h r, k => .li (k _ (List.mem_cons_self) _ h) (Trs.mono sG r fun b hb => k b (List.mem_cons_of_mem _ hb))
  | _, _, _, _, .dk h l r, k => .dk (k _ (List.mem_cons_self) _ h) l (Trs.mono sG r fun b hb => k b (List.mem_cons_of_mem _ hb))
  | _, _, _, _, .un1 t, k => .un1 (Tr.mono sG t k)
  | _, _, _, _, .un2 h f, _ => .un2 (h.mono sG) f
  | _, _, _, _, .ob h hd l r, k => .ob (k _ (List.mem_cons_self) _ h) (k _ (List.mem_cons_of_mem _ (List.mem_cons_self)) _ hd) l (Trs.mono sG r fun b hb => k b (List.mem_cons_of_mem _ (List.mem_cons_of_mem _ hb)))
theorem Trs.mono {K : PySem.W.Frag} {H H' G G' : Hp} (sG : Sub G G') : ∀ {s : List Sh} {v : List V} {d : List D} {fp : List Addr}, Trs K H G s v d fp → (∀ b ∈ fp, ∀ o, H b = some o → H' b = some o) → Trs K H' G' s v d fp
  | _, _, _, _, .nil, _ => .nil
  | _, _, _, _, .cons h r, k => .cons (Tr.mono sG h fun b hb => k b (List.mem_append_left _ hb)) (Trs.mono sG r fun b hb => k b (List.mem_append_right _ hb))
end
mutual
theorem Tr.there {K : PySem.W.Frag} {H G : Hp} : ∀ {s : Sh} {v : V} {d : D} {fp : List Addr}, Tr K H G s v d fp → ∀ b ∈ fp, ∃ o, H b = some o ∧ NT o
  | _, _, _, _, .fz _, _, hb => nomatch hb
  | _, _, _, _, .li h r, b, hb => by
    rcases List.mem_cons.mp hb with rfl | hb
    · exact ⟨_, h, nt_lst _⟩
    · exact Trs.there r b hb
  | _, _, _, _, .dk h l r, b, hb => by
    rcases List.mem_cons.mp hb with rfl | hb
    · exact ⟨_, h, nt_dK _⟩
    · exact Trs.there r b hb
  | _, _, _, _, .un1 t, b, hb => Tr.there t b hb
  | _, _, _, _, .un2 _ _, _, hb => nomatch hb
  | _, _, _, _, .ob h hd l r, b, hb => by
    rcases List.mem_cons.mp hb with rfl | hb
    · exact ⟨_, h, nt_ins _ _ _⟩
    · rcases List.mem_cons.mp hb with rfl | hb
      · exact ⟨_, hd, nt_own _⟩
      · exact Trs.there r b hb
theorem Trs.there {K : PySem.W.Frag} {H G : Hp} : ∀ {s : List Sh} {v : List V} {d : List D} {fp : List Addr}, Trs K H G s v d fp → ∀ b ∈ fp, ∃ o, H b = some o ∧ NT o
  | _, _, _, _, .nil, _, hb => nomatch hb
  | _, _, _, _, .cons h r, b, hb => (List.mem_append.mp hb).elim (Tr.there h b) (Trs.there r b)
end
mutual
/-- a tree as data that is read -/
theorem Tr.rep {K : PySem.W.Frag} {H G : Hp} (sG : Sub G H) : ∀ {s : Sh} {v : V} {d : D} {fp : List Addr}, Tr K H G s v d fp → Rep K H v d
  | _, _, _, _, .fz h => h.mono sG
  | _, _, _, _, .li h r => .lst (SqL.of h) (Trs.rep sG r)
  | _, _, _, _, .dk h l r => .dic h l (Trs.rep sG r)
  | _, _, _, _, .un1 t => Tr.rep sG t
  | _, _, _, _, .un2 h _ => h.mono sG
  | _, _, _, _, .ob h _ l r => .obj h l (Trs.rep sG r)
theorem Trs.rep {K : PySem.W.Frag} {H G : Hp} (sG : Sub G H) : ∀ {s : List Sh} {v : List V} {d : List D} {fp : List Addr}, Trs K H G s v d fp → Reps K H v d
  | _, _, _, _, .nil => .nil
  | _, _, _, _, .cons h r => .cons (Tr.rep sG h) (Trs.rep sG r)
end
theorem Trs.fzs {K : PySem.W.Frag} {H G : Hp} : ∀ {n : Nat} {vs : List V} {ds : List D} {fp : List Addr}, Trs K H G (List.replicate n .fz) vs ds fp → fp = [] ∧ Reps K G vs ds
  | 0, _, _, _, h => by cases h; exact ⟨rfl, .nil⟩
  | n + 1, _, _, _, h => by
    rw [List.replicate_succ] at h
    cases h with
    | cons h r =>
      obtain ⟨e, q⟩ := Trs.fzs r
      cases h with
      | fz h => exact ⟨by rw [e]; rfl, .cons h q⟩
theorem Trs.ofFz {K : PySem.W.Frag} {H G : Hp} : ∀ {vs : List V} {ds : List D}, Reps K G vs ds → Trs K H G (List.replicate vs.length .fz) vs ds []
  | _, _, .nil => .nil
  | _, _, .cons h r => by
    rw [List.length_cons, List.replicate_succ]
    exact Trs.cons (fp := []) (.fz h) (Trs.ofFz r)

/-! ### environments -/
abbrev En := List (Option D)
/-- slots: what they hold stands for the environment's data -/
inductive TrE (K : PySem.W.Frag) (H G : Hp) : List Sh → En → L2.St → List Addr → Prop
  | nil : TrE K H G [] [] [] []
  | skip {s : Sh} {Γ : List Sh} {env : En} {x : Option V} {σ : L2.St} {fp : List Addr} : TrE K H G Γ env σ fp → TrE K H G (s :: Γ) (none :: env) (x :: σ) fp
  | has {s : Sh} {Γ : List Sh} {env : En} {v : V} {d : D} {σ : L2.St} {fp fq : List Addr} : Tr K H G s v d fp → TrE K H G Γ env σ fq → TrE K H G (s :: Γ) (some d :: env) (some v :: σ) (fp ++ fq)
theorem TrE.mono {K : PySem.W.Frag} {H H' G G' : Hp} (sG : Sub G G') : ∀ {Γ : List Sh} {env : En} {σ : L2.St} {fp : List Addr}, TrE K H G Γ env σ fp → (∀ b ∈ fp, ∀ o, H b = some o → H' b = some o) → TrE K H' G' Γ env σ fp
  | _, _, _, _, .nil, _ => .nil
  | _, _, _, _, .skip r, k => .skip (TrE.mono sG r k)
  | _, _, _, _, .has h r, k => .has (h.mono sG fun b hb => k b (List.mem_append_left _ hb)) (TrE.mono sG r fun b hb => k b (List.mem_append_right _ hb))
theorem TrE.there {K : PySem.W.Frag} {H G : Hp} : ∀ {Γ : List Sh} {env : En} {σ : L2.St} {fp : List Addr}, TrE K H G Γ env σ fp → ∀ b ∈ fp, ∃ o, H b = some o ∧ NT o
  | _, _, _, _, .nil, _, hb => nomatch hb
  | _, _, _, _, .skip r, b, hb => TrE.there r b hb
  | _, _, _, _, .has h r, b, hb => (List.mem_append.mp hb).elim (h.there b) (TrE.there r b)
/-- a slot -/
theorem TrE.get {K : PySem.W.Frag} {H G : Hp} : ∀ {Γ : List Sh} {env : En} {σ : L2.St} {fp : List Addr}, TrE K H G Γ env σ fp → ∀ {i : Nat} {d : D} {s : Sh}, env[i]? = some (some d) → Γ[i]? = some s →
    ∃ v fq, σ[i]? = some (some v) ∧ Tr K H G s v d fq ∧ (∀ b ∈ fq, b ∈ fp) ∧ (fp.Nodup → fq.Nodup)
  | _, _, _, _, .nil, _, _, _, h, _ => by simp at h
  | _, _, _, _, .skip r, 0, _, _, h, _ => by simp at h
  | _, _, _, _, .skip r, i + 1, d, s, h, g => by
    obtain ⟨v, fq, a, b, c⟩ := TrE.get r (i := i) (d := d) (s := s) (by simpa using h) (by simpa using g)
    exact ⟨v, fq, by simpa using a, b, c⟩
  | _, _, _, _, .has t r, 0, _, _, h, g => by
    simp at h g; subst h; subst g
    exact ⟨_, _, rfl, t, fun b hb => List.mem_append_left _ hb, fun n => (List.nodup_append.mp n).1⟩
  | _, _, _, _, .has t r, i + 1, d, s, h, g => by
    obtain ⟨v, fq, a, b, c, n⟩ := TrE.get r (i := i) (d := d) (s := s) (by simpa using h) (by simpa using g)
    exact ⟨v, fq, by simpa using a, b, fun x hx => List.mem_append_right _ (c x hx), fun z => n (List.nodup_append.mp z).2.1⟩
/-- a slot with its tree: it may be changed -/
theorem TrE.put {K : PySem.W.Frag} {H G : Hp} : ∀ {Γ : List Sh} {env : En} {σ : L2.St} {fp : List Addr}, TrE K H G Γ env σ fp → ∀ {i : Nat} {s : Sh}, Γ[i]? = some s →
    ∃ f1 f2 f3, fp = f1 ++ (f2 ++ f3) ∧ (∀ d, env[i]? = some (some d) → ∃ v, σ[i]? = some (some v) ∧ Tr K H G s v d f2) ∧
      (∀ (H' G' : Hp), Sub G G' → (∀ b ∈ f1 ++ f3, ∀ o, H b = some o → H' b = some o) → TrE K H' G' Γ (env.set i none) σ (f1 ++ f3) ∧ (∀ x, TrE K H' G' Γ (env.set i none) (σ.set i x) (f1 ++ f3)) ∧
        ∀ v d fn, Tr K H' G' s v d fn → TrE K H' G' Γ (env.set i (some d)) (σ.set i (some v)) (f1 ++ (fn ++ f3)) ∧ (σ[i]? = some (some v) → TrE K H' G' Γ (env.set i (some d)) σ (f1 ++ (fn ++ f3))))
  | _, _, _, _, .nil, _, _, g => by simp at g
  | _, _, _, _, .skip r, 0, s, g => by
    simp at g; subst g
    refine ⟨[], [], _, rfl, fun d h => by simp at h, fun H' G' sG k => ⟨.skip (r.mono sG k), fun x => .skip (r.mono sG k), fun v d fn t => ⟨by rw [List.nil_append]; exact .has t (r.mono sG k), fun e => ?_⟩⟩⟩
    simp at e; subst e
    rw [List.nil_append]
    exact .has t (r.mono sG k)
  | _, _, _, _, .has t r, 0, s, g => by
    simp at g; subst g
    refine ⟨[], _, _, rfl, fun d h => ?_, fun H' G' sG k => ⟨.skip (r.mono sG k), fun x => .skip (r.mono sG k), fun v d fn t' => ⟨by rw [List.nil_append]; exact .has t' (r.mono sG k), fun e => ?_⟩⟩⟩
    · simp at h; subst h; exact ⟨_, rfl, t⟩
    · simp at e; subst e
      rw [List.nil_append]
      exact .has t' (r.mono sG k)
  | _, _, _, _, .skip r, i + 1, s, g => by
    obtain ⟨f1, f2, f3, e, a, b⟩ := TrE.put r (i := i) (s := s) (by simpa using g)
    refine ⟨f1, f2, f3, e, fun d h => ?_, fun H' G' sG k => ?_⟩
    · obtain ⟨v, h1, h2⟩ := a d (by simpa using h)
      exact ⟨v, by simpa using h1, h2⟩
    · obtain ⟨b1, b2, b3⟩ := b H' G' sG k
      exact ⟨.skip b1, fun x => .skip (b2 x), fun v d fn t => ⟨.skip (b3 v d fn t).1, fun e => .skip ((b3 v d fn t).2 (by simpa using e))⟩⟩
  | _, _, _, _, .has (fp := fp0) t r, i + 1, s, g => by
    obtain ⟨f1, f2, f3, e, a, b⟩ := TrE.put r (i := i) (s := s) (by simpa using g)
    refine ⟨fp0 ++ f1, f2, f3, by rw [e, List.append_assoc], fun d h => ?_, fun H' G' sG k => ?_⟩
    · obtain ⟨v, h1, h2⟩ := a d (by simpa using h)
      exact ⟨v, by simpa using h1, h2⟩
    · have t' := t.mono sG fun x hx => k x (List.mem_append_left _ (List.mem_append_left _ hx))
      obtain ⟨b1, b2, b3⟩ := b H' G' sG fun x hx => k x ((List.mem_append.mp hx).elim (fun z => List.mem_append_left _ (List.mem_append_right _ z)) (List.mem_append_right _))
      refine ⟨by rw [List.append_assoc]; exact .has t' b1, fun x => by rw [List.append_assoc]; exact .has t' (b2 x), fun v d fn q => ⟨by rw [List.append_assoc]; exact .has t' (b3 v d fn q).1, fun e => by rw [List.append_assoc]; exact .has t' ((b3 v d fn q).2 (by simpa using e))⟩⟩
theorem TrE.lens {K : PySem.W.Frag} {H G : Hp} : ∀ {Γ : List Sh} {env : En} {σ : L2.St} {fp : List Addr}, TrE K H G Γ env σ fp → env.length = σ.length ∧ Γ.length = σ.length
  | _, _, _, _, .nil => ⟨rfl, rfl⟩
  | _, _, _, _, .skip r => by have := TrE.lens r; simp [this.1, this.2]
  | _, _, _, _, .has _ r => by have := TrE.lens r; simp [this.1, this.2]

/-- the environment stands: fp what is owned here, Z what is hidden -/
structure EOk (K : PySem.W.Frag) (Γ : List Sh) (env : En) (σ : L2.St) (H : Hp) (fp Z : List Addr) : Prop where
  ex : ∃ fq, TrE K H (hid (fp ++ Z) H) Γ env σ fq ∧ fq.Nodup ∧ ∀ b ∈ fq, b ∈ fp
  dj : ∀ b ∈ fp, b ∉ Z
  ok : ∀ b ∈ fp ++ Z, ∃ o, H b = some o ∧ NT o
/-- from H, fp to H', fp' : only what is owned has changed, only new things are owned besides -/
structure Ext (H : Hp) (fp : List Addr) (H' : Hp) (fp' : List Addr) : Prop where
  keep : ∀ b o, H b = some o → b ∉ fp → H' b = some o
  own : ∀ b ∈ fp', b ∈ fp ∨ H b = none
  there : ∀ b ∈ fp, H b ≠ none → H' b ≠ none
theorem Ext.refl {H : Hp} {fp : List Addr} : Ext H fp H fp := ⟨fun _ _ h _ => h, fun _ h => .inl h, fun _ _ h => h⟩
theorem Ext.same {H H' : Hp} {fp : List Addr} (s : Sub H H') : Ext H fp H' fp := ⟨fun b o h _ => s b o h, fun _ h => .inl h, fun b _ h => by
  cases e : H b with
  | none => exact absurd e h
  | some o => rw [s b o e]; simp⟩
theorem Ext.back {H H' : Hp} {fp fp' : List Addr} (a : Ext H fp H' fp') {b : Addr} (h : H' b = none) : H b = none := by
  cases e : H b with
  | none => rfl
  | some o =>
    by_cases hb : b ∈ fp
    · exact absurd h (a.there b hb (by rw [e]; simp))
    · rw [a.keep b o e hb] at h; cases h
theorem Ext.trans {H H1 H2 : Hp} {f f1 f2 : List Addr} (a : Ext H f H1 f1) (b : Ext H1 f1 H2 f2) : Ext H f H2 f2 where
  keep := fun c o h n => b.keep c o (a.keep c o h n) fun z => by
    rcases a.own c z with q | q
    · exact n q
    · rw [h] at q; cases q
  own := fun c h => by
    rcases b.own c h with q | q
    · exact a.own c q
    · exact .inr (a.back q)
  there := fun c h n => fun z => n (a.back (b.back z))
theorem Ext.hid {H H' : Hp} {fp fp' Z : List Addr} (a : Ext H fp H' fp') : Sub (hid (fp ++ Z) H) (hid (fp' ++ Z) H') := fun b o h => by
  obtain ⟨h1, h2⟩ := hid_some h
  rw [hid_of]
  · exact a.keep b o h2 fun z => h1 (List.mem_append_left _ z)
  · intro z
    rcases List.mem_append.mp z with z | z
    · rcases a.own b z with q | q
      · exact h1 (List.mem_append_left _ q)
      · rw [h2] at q; cases q
    · exact h1 (List.mem_append_right _ z)
theorem EOk.same {K : PySem.W.Frag} {Γ : List Sh} {env : En} {σ : L2.St} {H H' : Hp} {fp Z : List Addr} (h : EOk K Γ env σ H fp Z) (s : Sub H H') : EOk K Γ env σ H' fp Z := by
  obtain ⟨⟨fq, t, n, i⟩, dj, ok⟩ := h
  exact ⟨⟨fq, t.mono (hid_mono s) fun b _ o e => s b o e, n, i⟩, dj, fun b hb => let ⟨o, e, p⟩ := ok b hb; ⟨o, s b o e, p⟩⟩
theorem EOk.nt {K : PySem.W.Frag} {Γ : List Sh} {env : En} {σ : L2.St} {H : Hp} {fp Z : List Addr} (h : EOk K Γ env σ H fp Z) : ∀ b ∈ fp ++ Z, ∀ o, H b = some o → NT o := fun b hb o e => by
  obtain ⟨o', e', p⟩ := h.ok b hb
  rw [e] at e'; cases e'
  exact p
theorem EOk.fresh {K : PySem.W.Frag} {Γ : List Sh} {env : En} {σ : L2.St} {H : Hp} {fp Z : List Addr} (h : EOk K Γ env σ H fp Z) {p : Addr} (n : H p = none) : p ∉ fp ++ Z := fun z => by
  obtain ⟨o, e, _⟩ := h.ok p z
  rw [n] at e; cases e
end Py

set_option Elab.async false
set_option linter.all false
set_option maxRecDepth 100000
set_option maxHeartbeats 4000000
/-! Own layer: pure expressions. -/
namespace Py
open PySem PySem.Spec PyProof.Rows L2

/-! ### data as the library's data -/
mutual
def D.py : D → PyData
  | .non => .none
  | .bl b => .bool b
  | .int i => .int i
  | .str x => .str x
  | .tup xs => .tuple (D.pys xs)
  | .lst xs => .list (D.pys xs)
  | .dic _ _ => .dict []
  | .dct _ _ => .dict []
  | .ins _ _ _ => .dict []
  | .obj _ _ _ => .dict []
def D.pys : List D → List PyData
  | [] => []
  | d :: ds => d.py :: D.pys ds
end
mutual
/-- data of at most that depth, without dicts, with plain texts -/
def D.ok : Nat → D → Bool
  | _, .non => true
  | _, .bl _ => true
  | _, .int _ => true
  | _, .str x => PyData.strOk x
  | n + 1, .tup xs => D.oks n xs
  | n + 1, .lst xs => D.oks n xs
  | _, _ => false
def D.oks : Nat → List D → Bool
  | _, [] => true
  | n, d :: ds => d.ok n && D.oks n ds
end
mutual
theorem D.ok_lay : ∀ {n : Nat} {d : D}, d.ok n = true → d.py.canLay0 = true ∧ d.py.depth ≤ n
  | _, .non, _ => by simp [D.py, PyData.canLay0, PyData.depth]
  | _, .bl _, _ => by simp [D.py, PyData.canLay0, PyData.depth]
  | _, .int _, _ => by simp [D.py, PyData.canLay0, PyData.depth]
  | _, .str x, h => by simpa [D.ok, D.py, PyData.canLay0, PyData.depth] using h
  | n + 1, .tup xs, h => by
    obtain ⟨a, b⟩ := D.oks_lay (n := n) (ds := xs) (by simpa [D.ok] using h)
    simp [D.py, PyData.canLay0, PyData.depth, a, b]
  | n + 1, .lst xs, h => by
    obtain ⟨a, b⟩ := D.oks_lay (n := n) (ds := xs) (by simpa [D.ok] using h)
    simp [D.py, PyData.canLay0, PyData.depth, a, b]
  | 0, .tup xs, h => by simp [D.ok] at h
  | 0, .lst xs, h => by simp [D.ok] at h
  | _, .dic _ _, h => by simp [D.ok] at h
  | _, .dct _ _, h => by simp [D.ok] at h
  | _, .ins _ _ _, h => by simp [D.ok] at h
  | _, .obj _ _ _, h => by simp [D.ok] at h
theorem D.oks_lay : ∀ {n : Nat} {ds : List D}, D.oks n ds = true → PyData.canLayAll0 (D.pys ds) = true ∧ PyData.depthAll (D.pys ds) ≤ n
  | _, [], _ => by simp [D.pys, PyData.canLayAll0, PyData.depthAll]
  | n, d :: ds, h => by
    have h' : d.ok n = true ∧ D.oks n ds = true := by simpa [D.oks] using h
    obtain ⟨a, b⟩ := D.ok_lay h'.1
    obtain ⟨a2, b2⟩ := D.oks_lay h'.2
    simp [D.pys, PyData.canLayAll0, PyData.depthAll, a, b, a2, b2]
    omega
end
theorem D.ok_shaped {n : Nat} {d : D} (h : d.ok n = true) (hn : n ≤ 64) : SeqAt.shaped d.py = true := by
  obtain ⟨a, b⟩ := D.ok_lay h
  unfold SeqAt.shaped
  rw [a, Bool.true_and]
  exact decide_eq_true (by omega)
mutual
theorem Rep.dp {K : PySem.W.Frag} {H : Hp} : ∀ {n : Nat} {v : V} {d : D}, Rep K H v d → d.ok n = true → Dp K H v d.py
  | _, _, _, .non, _ => .non
  | _, _, _, .bl b, _ => .bl b
  | _, _, _, .int i, _ => .int i
  | _, _, _, .str x, _ => .str x
  | 0, _, _, .tup h r, f => by simp [D.ok] at f
  | 0, _, _, .lst h r, f => by simp [D.ok] at f
  | n + 1, _, _, .tup h r, f => .tup h (Reps.dps r (by simpa [D.ok] using f))
  | n + 1, _, _, .lst h r, f => .lst h (Reps.dps r (by simpa [D.ok] using f))
  | _, _, _, .dic _ _ _, f => by simp [D.ok] at f
theorem Reps.dps {K : PySem.W.Frag} {H : Hp} : ∀ {n : Nat} {v : List V} {d : List D}, Reps K H v d → D.oks n d = true → DpAll K H v (D.pys d)
  | _, _, _, .nil, _ => .nil
  | n, _, _, .cons h r, f => by
    have f' := Bool.and_eq_true_iff.mp (show (D.ok n _ && D.oks n _) = true from f)
    exact .cons (Rep.dp h f'.1) (Reps.dps r f'.2)
end
/-- flat data as a value -/
def D.v : D → V
  | .bl b => .bl b
  | .int i => .int i
  | .str x => .str x
  | _ => .non
theorem Rep.ofFlat {K : PySem.W.Frag} {G : Hp} {d : D} (h : d.flat = true) : Rep K G d.v d := by
  cases d <;> first | (cases h; done) | constructor
theorem Rep.v {K : PySem.W.Frag} {G : Hp} {v : V} {d : D} (r : Rep K G v d) (h : d.flat = true) : v = d.v := by
  cases r <;> first | (cases h; done) | rfl

/-! ### kinds of values -/
inductive Kd where
  | u | t | vw (s : Sh) | nw (s : Sh)
  deriving DecidableEq, Inhabited
/-- a value of the kind k, reckoned from H (fp owned, Z hidden) to H' -/
def HK (K : PySem.W.Frag) (k : Kd) (H : Hp) (fp Z : List Addr) (H' : Hp) (v : V) (d : D) : Prop := match k with
  | .u => Rep K (hid (fp ++ Z) H') v d
  | .t => Rep K H' v d
  | .vw s => ∃ fv, (∀ b ∈ fv, b ∈ fp) ∧ fv.Nodup ∧ Tr K H' (hid (fp ++ Z) H') s v d fv
  | .nw s => ∃ fn, (∀ b ∈ fn, H b = none ∧ b ∉ fp ++ Z) ∧ fn.Nodup ∧ Tr K H' (hid (fn ++ (fp ++ Z)) H') s v d fn
section
variable {K : PySem.W.Frag} {k : Kd} {H H' H2 : Hp} {fp Z : List Addr} {v : V} {d : D}
theorem HK.rep (h : HK K k H fp Z H' v d) : Rep K H' v d := by
  cases k with
  | u => exact Rep.mono hid_sub h
  | t => exact h
  | vw s => obtain ⟨fv, _, _, t⟩ := h; exact t.rep hid_sub
  | nw s => obtain ⟨fn, _, _, t⟩ := h; exact t.rep hid_sub
theorem HK.more (h : HK K k H fp Z H' v d) (s : Sub H' H2) : HK K k H fp Z H2 v d := by
  cases k with
  | u => exact Rep.mono (hid_mono s) h
  | t => exact Rep.mono s h
  | vw _ => obtain ⟨fv, a, n, t⟩ := h; exact ⟨fv, a, n, t.mono (hid_mono s) fun b _ o e => s b o e⟩
  | nw _ => obtain ⟨fn, a, n, t⟩ := h; exact ⟨fn, a, n, t.mono (hid_mono s) fun b _ o e => s b o e⟩
theorem HK.less (h : HK K k H fp Z H' v d) (s : Sub H2 H) : HK K k H2 fp Z H' v d := by
  cases k with
  | nw _ =>
    obtain ⟨fn, a, n, t⟩ := h
    refine ⟨fn, fun b hb => ⟨?_, (a b hb).2⟩, n, t⟩
    cases e : H2 b with
    | none => rfl
    | some o => have := s b o e; rw [(a b hb).1] at this; cases this
  | _ => exact h
theorem HK.fl (f : d.flat = true) (k : Kd) (hk : k = .u ∨ k = .t) : HK K k H fp Z H' d.v d := by
  rcases hk with rfl | rfl <;> exact Rep.ofFlat f
/-- a new tree may be let stand for good -/
theorem HK.nwU {s : Sh} (h : HK K (.nw s) H fp Z H' v d) : HK K .u H fp Z H' v d := by
  obtain ⟨fn, a, n, t⟩ := h
  have t' : Tr K (hid (fp ++ Z) H') (hid (fn ++ (fp ++ Z)) H') s v d fn := t.mono Sub.refl fun b hb o e => by
    rw [hid_of (a b hb).2]; exact e
  exact t'.rep (hid_less fun b hb => List.mem_append_right _ hb)
/-- the elements are clean -/
def Kd.clean : Kd → Bool
  | .u => true
  | .nw _ => true
  | .vw .fz => true
  | .vw (.li .fz) => true
  | .vw (.dk .fz) => true
  | .vw .un => true
  | _ => false
/-- where the elements of such a value lie -/
def Kd.G (k : Kd) (fp Z : List Addr) (H' : Hp) : Hp := if k.clean = true then hid (fp ++ Z) H' else H'
theorem Kd.G_sub {k : Kd} : Sub (k.G fp Z H') H' := by
  unfold Kd.G
  split
  · exact hid_sub
  · exact Sub.refl
theorem HK.lst {ds : List D} (h : HK K k H fp Z H' v (.lst ds)) : ∃ a vs, v = .ref a ∧ SqL K H' a vs ∧ Reps K (k.G fp Z H') vs ds := by
  have key : ∀ {k : Kd}, k.clean = true → HK K .u H fp Z H' v (.lst ds) → ∃ a vs, v = .ref a ∧ SqL K H' a vs ∧ Reps K (k.G fp Z H') vs ds := fun hk h => by
    unfold Kd.G
    rw [if_pos hk]
    cases h with
    | lst q r => exact ⟨_, _, rfl, hid_sub.sqL q, r⟩
  have gen : ∀ {k : Kd}, k.clean = false → HK K k H fp Z H' v (.lst ds) → ∃ a vs, v = .ref a ∧ SqL K H' a vs ∧ Reps K (k.G fp Z H') vs ds := fun hk h => by
    unfold Kd.G
    rw [if_neg (by rw [hk]; decide)]
    cases h.rep with
    | lst q r => exact ⟨_, _, rfl, q, r⟩
  cases k with
  | u => exact key rfl h
  | t => exact gen rfl h
  | nw s => exact key (k := .nw s) rfl h.nwU
  | vw s =>
    cases s with
    | fz =>
      obtain ⟨fv, a, n, t⟩ := h
      cases t with
      | fz t => exact key (k := .vw .fz) rfl t
    | dk s =>
      obtain ⟨fv, a, n, t⟩ := h
      cases t
    | li s =>
      cases s with
      | fz =>
        obtain ⟨fv, a, n, t⟩ := h
        cases t with
        | li q r => exact ⟨_, _, rfl, SqL.of q, (Trs.fzs r).2⟩
      | _ => exact gen rfl h
    | un =>
      obtain ⟨fv, a, n, t⟩ := h
      cases t with
      | un1 t =>
        cases t with
        | li q r => exact ⟨_, _, rfl, SqL.of q, (Trs.fzs r).2⟩
      | un2 _ f => cases f
    | _ =>
      obtain ⟨fv, a, n, t⟩ := h
      cases t
theorem HK.tup {ds : List D} (h : HK K k H fp Z H' v (.tup ds)) : ∃ a vs, v = .ref a ∧ SqT K H' a vs ∧ Reps K (k.G fp Z H') vs ds := by
  have key : ∀ {k : Kd}, k.clean = true → HK K .u H fp Z H' v (.tup ds) → ∃ a vs, v = .ref a ∧ SqT K H' a vs ∧ Reps K (k.G fp Z H') vs ds := fun hk h => by
    unfold Kd.G
    rw [if_pos hk]
    cases h with
    | tup q r => exact ⟨_, _, rfl, hid_sub.sqT q, r⟩
  have gen : ∀ {k : Kd}, k.clean = false → HK K k H fp Z H' v (.tup ds) → ∃ a vs, v = .ref a ∧ SqT K H' a vs ∧ Reps K (k.G fp Z H') vs ds := fun hk h => by
    unfold Kd.G
    rw [if_neg (by rw [hk]; decide)]
    cases h.rep with
    | tup q r => exact ⟨_, _, rfl, q, r⟩
  cases k with
  | u => exact key rfl h
  | t => exact gen rfl h
  | nw s => exact key (k := .nw s) rfl h.nwU
  | vw s =>
    cases s with
    | fz =>
      obtain ⟨fv, a, n, t⟩ := h
      cases t with
      | fz t => exact key (k := .vw .fz) rfl t
    | un =>
      obtain ⟨fv, a, n, t⟩ := h
      cases t with
      | un1 t => cases t
      | un2 t f => exact key (k := .vw .un) rfl t
    | _ =>
      obtain ⟨fv, a, n, t⟩ := h
      cases t
end
/-- a kind that a value out of such elements has -/
def Kd.el (k : Kd) : Kd := if k.clean = true then .u else .t
theorem HK.el {K : PySem.W.Frag} {k : Kd} {H H' : Hp} {fp Z : List Addr} {v : V} {d : D} (h : Rep K (k.G fp Z H') v d) : HK K k.el H fp Z H' v d := by
  unfold Kd.G at h
  unfold Kd.el
  by_cases c : k.clean = true
  · rw [if_pos c] at h; rw [if_pos c]; exact h
  · rw [if_neg c] at h; rw [if_neg c]; exact h
/-- two kinds at once -/
def Kd.j (a b : Kd) : Kd := if (a.clean && b.clean) = true then .u else .t

/-! ### the judgement: an expression that changes nothing -/
structure SP (X : Cx) (Γ : List Sh) (e : Expr) (f : En → Option D) (k : Kd) : Prop where
  ex : ∃ t, PE X e t ∧ ∀ (σ : L2.St) (H : Hp) (Q : VK) (env : En) (fp Z : List Addr) (d : D), EOk X.K Γ env σ H fp Z → f env = some d → (∀ v H', Sub H H' → HK X.K k H fp Z H' v d → Q v H') → t σ H Q
/-- a test -/
structure ST (X : Cx) (Γ : List Sh) (e : Expr) (f : En → Option Bool) : Prop where
  ex : ∃ t, PT X e t ∧ ∀ (σ : L2.St) (H : Hp) (Q : Bool → Hp → Prop) (env : En) (fp Z : List Addr) (b : Bool), EOk X.K Γ env σ H fp Z → f env = some b → (∀ H', Sub H H' → Q b H') → t σ H Q
/-- arguments -/
inductive HKs (K : PySem.W.Frag) (H : Hp) (fp Z : List Addr) (H' : Hp) : List Kd → List V → List D → Prop
  | nil : HKs K H fp Z H' [] [] []
  | cons {k : Kd} {ks : List Kd} {v : V} {vs : List V} {d : D} {ds : List D} : HK K k H fp Z H' v d → HKs K H fp Z H' ks vs ds → HKs K H fp Z H' (k :: ks) (v :: vs) (d :: ds)
theorem HKs.less {K : PySem.W.Frag} {H H' H2 : Hp} {fp Z : List Addr} (s : Sub H2 H) : ∀ {ks : List Kd} {vs : List V} {ds : List D}, HKs K H fp Z H' ks vs ds → HKs K H2 fp Z H' ks vs ds
  | _, _, _, .nil => .nil
  | _, _, _, .cons h r => .cons (h.less s) (HKs.less s r)
theorem HKs.reps {K : PySem.W.Frag} {H H' : Hp} {fp Z : List Addr} : ∀ {ks : List Kd} {vs : List V} {ds : List D}, HKs K H fp Z H' ks vs ds → Reps K H' vs ds
  | _, _, _, .nil => .nil
  | _, _, _, .cons h r => .cons h.rep (HKs.reps r)
def Kd.cu : Kd → Bool
  | .u => true
  | .nw _ => true
  | .vw .fz => true
  | _ => false
theorem HK.toU {K : PySem.W.Frag} {k : Kd} {H H' : Hp} {fp Z : List Addr} {v : V} {d : D} (h : HK K k H fp Z H' v d) (c : k.cu = true) : Rep K (hid (fp ++ Z) H') v d := by
  cases k with
  | u => exact h
  | t => cases c
  | nw s => exact h.nwU
  | vw s =>
    cases s with
    | fz =>
      obtain ⟨fv, a, n, t⟩ := h
      cases t with
      | fz t => exact t
    | _ => cases c
theorem HKs.repsU {K : PySem.W.Frag} {H H' : Hp} {fp Z : List Addr} : ∀ {ks : List Kd} {vs : List V} {ds : List D}, HKs K H fp Z H' ks vs ds → ks.all Kd.cu = true → Reps K (hid (fp ++ Z) H') vs ds
  | _, _, _, .nil, _ => .nil
  | _, _, _, .cons (k := k) h r, c => by
    have c' := Bool.and_eq_true_iff.mp (show (k.cu && _) = true from c)
    exact .cons (h.toU c'.1) (HKs.repsU r c'.2)
structure SAs (X : Cx) (Γ : List Sh) (es : List Expr) (f : En → Option (List D)) (ks : List Kd) : Prop where
  ex : ∃ t, PA X es t ∧ ∀ (σ : L2.St) (H : Hp) (Q : List V → Hp → Prop) (env : En) (fp Z : List Addr) (ds : List D), EOk X.K Γ env σ H fp Z → f env = some ds → (∀ vs H', Sub H H' → HKs X.K H fp Z H' ks vs ds → Q vs H') → t σ H Q

/-! ### combinators -/
def c0 (d : D) : En → Option D := fun _ => some d
def vr (i : Nat) : En → Option D := fun env => (env[i]?).join
def b1 (f : En → Option D) (g : D → Option D) : En → Option D := fun env => (f env).bind g
def b2 (f h : En → Option D) (g : D → D → Option D) : En → Option D := fun env => (f env).bind fun a => (h env).bind fun b => g a b
def a0 : En → Option (List D) := fun _ => some []
def a1 (f : En → Option D) (h : En → Option (List D)) : En → Option (List D) := fun env => (f env).bind fun a => (h env).bind fun b => some (a :: b)
def bA (f : En → Option (List D)) (g : List D → Option D) : En → Option D := fun env => (f env).bind g
def tb (f : En → Option D) (g : D → Option Bool) : En → Option Bool := fun env => (f env).bind g
section
variable {X : Cx} {Γ : List Sh} {a b c e : Expr} {fa fb fc f : En → Option D} {ka kb kc k : Kd} {pos : Pos}
theorem bind2 {fa fb : En → Option D} {env : En} {g : D → D → Option D} {d : D} (h : b2 fa fb g env = some d) : ∃ x y, fa env = some x ∧ fb env = some y ∧ g x y = some d := by
  unfold b2 at h
  obtain ⟨x, h1, h⟩ := Option.bind_eq_some_iff.mp h
  obtain ⟨y, h2, h⟩ := Option.bind_eq_some_iff.mp h
  exact ⟨x, y, h1, h2, h⟩
theorem bind1 {fa : En → Option D} {env : En} {g : D → Option D} {d : D} (h : b1 fa g env = some d) : ∃ x, fa env = some x ∧ g x = some d := Option.bind_eq_some_iff.mp h
theorem SP.u (h : SP X Γ e f k) (c : k.cu = true) : SP X Γ e f .u := by
  obtain ⟨t, p, q⟩ := h.ex
  exact ⟨t, p, fun σ H Q env fp Z d E hf hQ => q σ H Q env fp Z d E hf fun v H' s hk => hQ v H' s (hk.toU c)⟩

theorem s_var (i : Nat) {x : Str} (hN : X.N[i]? = some x := by rfl) (hv : Vis X.env.scope x := by first | exact Or.inl rfl | exact Or.inr (Or.inl rfl) | exact Or.inr (Or.inr rfl)) (hs : Γ[i]? = some .fz := by rfl) (hd : (x == ("__debug__" : Str)) = false := by decide)
    (hcd : (x == ("__classdict__" : Str)) = false := by decide) : SP X Γ (.Name x pos) (vr i) .u := by
  refine ⟨_, pe_var hN hv hd hcd, fun σ H Q env fp Z d E hf hQ => ?_⟩
  have hf' : env[i]? = some (some d) := by
    unfold vr at hf
    cases e : env[i]? with
    | none => rw [e] at hf; cases hf
    | some o => rw [e] at hf; exact congrArg some hf
  obtain ⟨fq, t, n, s⟩ := E.ex
  obtain ⟨v, fv, h1, h2, h3, h4⟩ := t.get hf' hs
  cases h2 with
  | fz r => exact ⟨v, h1, hQ v H Sub.refl r⟩
theorem s_vw (i : Nat) {s : Sh} {x : Str} (hN : X.N[i]? = some x := by rfl) (hv : Vis X.env.scope x := by first | exact Or.inl rfl | exact Or.inr (Or.inl rfl) | exact Or.inr (Or.inr rfl)) (hs : Γ[i]? = some s := by rfl) (hd : (x == ("__debug__" : Str)) = false := by decide)
    (hcd : (x == ("__classdict__" : Str)) = false := by decide) : SP X Γ (.Name x pos) (vr i) (.vw s) := by
  refine ⟨_, pe_var hN hv hd hcd, fun σ H Q env fp Z d E hf hQ => ?_⟩
  have hf' : env[i]? = some (some d) := by
    unfold vr at hf
    cases e : env[i]? with
    | none => rw [e] at hf; cases hf
    | some o => rw [e] at hf; exact congrArg some hf
  obtain ⟨fq, t, n, s⟩ := E.ex
  obtain ⟨v, fv, h1, h2, h3, h4⟩ := t.get hf' hs
  exact ⟨v, h1, hQ v H Sub.refl ⟨fv, fun b hb => s b (h3 b hb), h4 n, h2⟩⟩
theorem s_int {i : Int} {j : Nat} : SP X Γ (.Constant (.int i) j pos) (c0 (.int i)) .u := ⟨_, pe_int, fun σ H Q env fp Z d E hf hQ => by cases hf; exact hQ _ H Sub.refl (Rep.int i)⟩
theorem s_bl {i : Bool} {j : Nat} : SP X Γ (.Constant (.bool i) j pos) (c0 (.bl i)) .u := ⟨_, pe_bl, fun σ H Q env fp Z d E hf hQ => by cases hf; exact hQ _ H Sub.refl (Rep.bl i)⟩
theorem s_non {j : Nat} : SP X Γ (.Constant .none j pos) (c0 .non) .u := ⟨_, pe_non, fun σ H Q env fp Z d E hf hQ => by cases hf; exact hQ _ H Sub.refl Rep.non⟩
theorem s_str {i : Str} {j : Nat} : SP X Γ (.Constant (.str i) j pos) (c0 (.str i)) .u := ⟨_, pe_str, fun σ H Q env fp Z d E hf hQ => by cases hf; exact hQ _ H Sub.refl (Rep.str i)⟩
/-- two operands -/
theorem two {ta tb : TE} (ha : ∀ (σ : L2.St) (H : Hp) (Q : VK) (env : En) (fp Z : List Addr) (d : D), EOk X.K Γ env σ H fp Z → fa env = some d → (∀ v H', Sub H H' → HK X.K ka H fp Z H' v d → Q v H') → ta σ H Q)
    (hb : ∀ (σ : L2.St) (H : Hp) (Q : VK) (env : En) (fp Z : List Addr) (d : D), EOk X.K Γ env σ H fp Z → fb env = some d → (∀ v H', Sub H H' → HK X.K kb H fp Z H' v d → Q v H') → tb σ H Q)
    {σ : L2.St} {H : Hp} {env : En} {fp Z : List Addr} {x y : D} {R : V → V → Hp → Prop} (E : EOk X.K Γ env σ H fp Z) (hx : fa env = some x) (hy : fb env = some y)
    (h : ∀ v w H', Sub H H' → HK X.K ka H fp Z H' v x → HK X.K kb H fp Z H' w y → R v w H') : ta σ H fun v H1 => tb σ H1 fun w H2 => R v w H2 :=
  ha σ H _ env fp Z x E hx fun v H1 s1 h1 => hb σ H1 _ env fp Z y (E.same s1) hy fun w H2 s2 h2 => h v w H2 (s1.trans s2) (h1.more s2) (h2.less s1)
/-- an operator on readable data that gives something flat -/
def Fl2 (K : PySem.W.Frag) (r : R2) (g : D → D → Option D) : Prop := ∀ (x y : V) (dx dy d : D) (H : Hp), Rep K H x dx → Rep K H y dy → g dx dy = some d → d.flat = true ∧ ∀ Q : VK, Q d.v H → r x y H Q
theorem s_bin {op : Operator} {r : R2} {g : D → D → Option D} (ho : OpR X (binaryOp op) r) (hg : Fl2 X.K r g) (ha : SP X Γ a fa ka) (hb : SP X Γ b fb kb) : SP X Γ (.BinOp a op b pos) (b2 fa fb g) .u := by
  obtain ⟨ta, pa, qa⟩ := ha.ex
  obtain ⟨tb, pb, qb⟩ := hb.ex
  refine ⟨_, pe_op ho pa pb, fun σ H Q env fp Z d E hf hQ => ?_⟩
  obtain ⟨x, y, hx, hy, hd⟩ := bind2 hf
  refine two qa qb E hx hy fun v w H' s h1 h2 => ?_
  obtain ⟨f, q⟩ := hg v w x y d H' h1.rep h2.rep hd
  exact q Q (hQ _ _ s (Rep.ofFlat f))
theorem s_cmp {op : CmpOp} {r : R2} {g : D → D → Option D} (ho : OpR X (compareOp op) r) (hg : Fl2 X.K r g) (ha : SP X Γ a fa ka) (hb : SP X Γ b fb kb) (hm : behindInMarks op b = false := by first | exact nomark _ | rfl) : SP X Γ (.Compare a [op] [b] pos) (b2 fa fb g) .u := by
  obtain ⟨ta, pa, qa⟩ := ha.ex
  obtain ⟨tb, pb, qb⟩ := hb.ex
  refine ⟨_, pe_cmpR ho pa pb hm, fun σ H Q env fp Z d E hf hQ => ?_⟩
  obtain ⟨x, y, hx, hy, hd⟩ := bind2 hf
  refine two qa qb E hx hy fun v w H' s h1 h2 => ?_
  obtain ⟨f, q⟩ := hg v w x y d H' h1.rep h2.rep hd
  exact q Q (hQ _ _ s (Rep.ofFlat f))
def asB : D → Option Bool
  | .bl b => some b
  | _ => none
theorem asB_ok {d : D} {b : Bool} (h : asB d = some b) : d = .bl b := by
  cases d with
  | bl c => cases h; rfl
  | _ => cases h
theorem st_cmp {op : CmpOp} {r : R2} {g : D → D → Option D} (ho : OpR X (compareOp op) r) (hg : Fl2 X.K r g) (ha : SP X Γ a fa ka) (hb : SP X Γ b fb kb) (hm : behindInMarks op b = false := by first | exact nomark _ | rfl) : ST X Γ (.Compare a [op] [b] pos) (tb (b2 fa fb g) asB) := by
  obtain ⟨ta, pa, qa⟩ := ha.ex
  obtain ⟨tb, pb, qb⟩ := hb.ex
  refine ⟨_, pt_cmpR ho pa pb hm, fun σ H Q env fp Z d E hf hQ => ?_⟩
  obtain ⟨z, hz, hd⟩ := Option.bind_eq_some_iff.mp hf
  have e := asB_ok hd
  subst e
  obtain ⟨x, y, hx, hy, hd⟩ := bind2 hz
  refine two qa qb E hx hy fun v w H' s h1 h2 => ?_
  obtain ⟨f, q⟩ := hg v w x y _ H' h1.rep h2.rep hd
  exact q _ ⟨d, rfl, hQ _ s⟩
/-! ints -/
def adI : D → D → Option D
  | .int i, .int j => some (.int (i + j))
  | _, _ => none
def sbI : D → D → Option D
  | .int i, .int j => some (.int (i - j))
  | _, _ => none
def muI : D → D → Option D
  | .int i, .int j => if i.natAbs < 18446744073709551616 ∨ j.natAbs < 18446744073709551616 then some (.int (i * j)) else none
  | _, _ => none
def fdI : D → D → Option D
  | .int i, .int j => if 0 < j ∧ j.natAbs < 18446744073709551616 then some (.int (i / j)) else none
  | _, _ => none
def mdI : D → D → Option D
  | .int i, .int j => if 0 < j then some (.int (i % j)) else none
  | _, _ => none
def pwI : D → D → Option D
  | .int i, .int j => if 0 ≤ j ∧ j.natAbs ≤ 1000000 ∧ i.natAbs < 2 ^ 64 then some (.int (i ^ j.toNat)) else none
  | _, _ => none
theorem fl_add : Fl2 X.K (rI0 fun i j => .int (i + j)) adI := fun x y dx dy d H hx hy h => by
  cases hx <;> first | (cases h; done) | skip
  cases hy <;> first | (cases h; done) | skip
  cases h
  exact ⟨rfl, fun Q q => ⟨_, _, rfl, rfl, q⟩⟩
theorem fl_sub : Fl2 X.K (rI0 fun i j => .int (i - j)) sbI := fun x y dx dy d H hx hy h => by
  cases hx <;> first | (cases h; done) | skip
  cases hy <;> first | (cases h; done) | skip
  cases h
  exact ⟨rfl, fun Q q => ⟨_, _, rfl, rfl, q⟩⟩
theorem fl_int {C : Int → Int → Prop} {g : Int → Int → Int} {r : D → D → Option D} (h1 : ∀ x y d, r x y = some d → ∃ i j, x = .int i ∧ y = .int j ∧ C i j ∧ d = .int (g i j)) : Fl2 X.K (rI C fun i j => .int (g i j)) r := fun x y dx dy d H hx hy h => by
  obtain ⟨i, j, rfl, rfl, c, rfl⟩ := h1 _ _ _ h
  cases hx
  cases hy
  exact ⟨rfl, fun Q q => ⟨_, _, rfl, rfl, c, q⟩⟩
theorem fl_mul : Fl2 X.K (rI CMul fun i j => .int (i * j)) muI := fl_int fun x y d h => by
  cases x <;> cases y <;> first | (cases h; done) | skip
  simp only [muI] at h
  split at h
  · rename_i c; cases h; exact ⟨_, _, rfl, rfl, by unfold CMul; omega, rfl⟩
  · cases h
theorem fl_fdiv : Fl2 X.K (rI CDivW fun i j => .int (i / j)) fdI := fl_int fun x y d h => by
  cases x <;> cases y <;> first | (cases h; done) | skip
  simp only [fdI] at h
  split at h
  · rename_i c; cases h; exact ⟨_, _, rfl, rfl, wide_div c.1 (b := 64) (by omega) (by omega) (by omega), rfl⟩
  · cases h
theorem fl_mod : Fl2 X.K (rI (fun _ j => 0 < j) fun i j => .int (i % j)) mdI := fl_int fun x y d h => by
  cases x <;> cases y <;> first | (cases h; done) | skip
  simp only [mdI] at h
  split at h
  · rename_i c; cases h; exact ⟨_, _, rfl, rfl, c, rfl⟩
  · cases h
theorem fl_pow : Fl2 X.K (rI CPow fun i j => .int (i ^ j.toNat)) pwI := fl_int fun x y d h => by
  cases x <;> cases y <;> first | (cases h; done) | skip
  simp only [pwI] at h
  split at h
  · rename_i c; cases h; exact ⟨_, _, rfl, rfl, ⟨c.1, by omega, c.2.2⟩, rfl⟩
  · cases h
def cpI (p : Int → Int → Bool) : D → D → Option D
  | .int i, .int j => some (.bl (p i j))
  | _, _ => none
theorem fl_cp {p : Int → Int → Bool} : Fl2 X.K (rI0 fun i j => .bl (p i j)) (cpI p) := fun x y dx dy d H hx hy h => by
  cases hx <;> first | (cases h; done) | skip
  cases hy <;> first | (cases h; done) | skip
  cases h
  exact ⟨rfl, fun Q q => ⟨_, _, rfl, rfl, q⟩⟩
abbrev ltI := cpI fun i j => decide (i < j)
abbrev leI := cpI fun i j => decide (i ≤ j)
abbrev gtI := cpI fun i j => decide (j < i)
abbrev geI := cpI fun i j => decide (j ≤ i)
/-! equality of data -/
def eqD (x y : D) : Option D := if (x.ok 60 && y.ok 60) = true then some (.bl (PyData.eqv x.py y.py)) else none
def neD (x y : D) : Option D := if (x.ok 60 && y.ok 60) = true then some (.bl (!PyData.eqv x.py y.py)) else none
theorem fl_eq : Fl2 X.K (rEqD X.K) eqD := fun x y dx dy d H hx hy h => by
  unfold eqD at h
  split at h
  · rename_i c
    have c' := Bool.and_eq_true_iff.mp c
    cases h
    exact ⟨rfl, fun Q q => ⟨_, _, hx.dp c'.1, hy.dp c'.2, D.ok_shaped c'.1 (by decide), D.ok_shaped c'.2 (by decide), q⟩⟩
  · cases h
theorem fl_ne : Fl2 X.K (rNeD X.K) neD := fun x y dx dy d H hx hy h => by
  unfold neD at h
  split at h
  · rename_i c
    have c' := Bool.and_eq_true_iff.mp c
    cases h
    exact ⟨rfl, fun Q q => ⟨_, _, hx.dp c'.1, hy.dp c'.2, D.ok_shaped c'.1 (by decide), D.ok_shaped c'.2 (by decide), q⟩⟩
  · cases h
def isN (neg : Bool) (x _y : D) : Option D := match _y with
  | .non => (match x with
    | .non => some (.bl (!neg))
    | _ => some (.bl neg))
  | _ => none
theorem fl_isN : Fl2 X.K (fun x y H Q => y = .non ∧ Q (.bl (decide (x = .non))) H) (isN false) := fun x y dx dy d H hx hy h => by
  cases hy <;> first | (cases h; done) | skip
  cases hx <;> (cases h; exact ⟨rfl, fun Q q => ⟨rfl, by simpa [D.v] using q⟩⟩)
theorem fl_notN : Fl2 X.K (fun x y H Q => y = .non ∧ Q (.bl (!decide (x = .non))) H) (isN true) := fun x y dx dy d H hx hy h => by
  cases hy <;> first | (cases h; done) | skip
  cases hx <;> (cases h; exact ⟨rfl, fun Q q => ⟨rfl, by simpa [D.v] using q⟩⟩)
end
end Py

set_option Elab.async false
set_option linter.all false
set_option maxRecDepth 100000
set_option maxHeartbeats 4000000
/-! Own layer: new lists and tuples, items, slices, truth, built-ins. -/
namespace Py
open PySem PySem.Spec PyProof.Rows L2

/-! ### rules of the library's form that were lacking -/
theorem list_mulW (l : Addr) (items : Array Value) (n : Nat) (dd : Option Addr) (sl : Array (Option Value)) (x : Int) (u : Tok) (hc0 : ¬(!Builtin.List.listFitsIndex x) = true) (hc1 : ¬items.size * x.toNat > (2 ^ 63 - 1) / 8) (hc2 : ¬Builtin.List.listTooLong (items.size * x.toNat) = true) :
    Meets (Builtin.«list.__mul__» ⟨[.ref l, .int x u], []⟩) (fun _ R s => s.heap.get? l = some { cls := .type "list", dict := dd, data := .seq items n, slots := sl } ∧ R (.ok (.ret (Value.ref s.heap.objs.size))) { s with heap := s.heap.push { cls := Value.type "list", data := Data.seq (List.foldl (fun x1 x2 => x1 ++ x2) #[] (List.replicate (if items.isEmpty = true then 0 else x.toNat) items)) }, toks := s.toks }) :=
  .of_wp fun prog w A R s h => by
    obtain ⟨hp, g, d, tk, os⟩ := s; obtain ⟨hl, h⟩ := h
    have hsz := AutoListH.joined_fits hc2
    have f1 := AutoSeq1.idx_int
    wp_walk using wpAny_loadPart' hl
    refine wpAny_ite_false (decide_eq_false (Nat.not_lt.mpr hsz)) ?_; wp_walk using wpAny_loadPart' hl; exact ⟨_, rfl, h⟩
theorem int_rmul_list (a : Int) (t : Tok) (l : Addr) (items : Array Value) (n : Nat) (dd : Option Addr) (sl : Array (Option Value)) :
    Meets (Builtin.«int.__rmul__» ⟨[.int a t, .ref l], []⟩) (fun _ R s => s.heap.get? l = some { cls := .type "list", dict := dd, data := .seq items n, slots := sl } ∧ R (.ok (.ret Value.notImplemented)) s) :=
  .of_wp fun prog w A R s h => by obtain ⟨hp, g, d, tk, os⟩ := s; obtain ⟨hl, h⟩ := h; wp_walk using wpAny_loadPart' hl; exact ⟨_, rfl, h⟩
theorem tuple_mul1 (l : Addr) (items : Array Value) (n : Nat) (dd : Option Addr) (sl : Array (Option Value)) (u : Tok) :
    Meets (Builtin.«tuple.__mul__» ⟨[.ref l, .int 1 u], []⟩) (fun _ R s => s.heap.get? l = some { cls := .type "tuple", dict := dd, data := .seq items n, slots := sl } ∧ R (.ok (.ret (Value.ref l))) s) :=
  .of_wp fun prog w A R s h => by
    obtain ⟨hp, g, d, tk, os⟩ := s
    obtain ⟨hl, h⟩ := h
    have f1 := AutoSeq1.idx_int
    have c1 : (items.isEmpty || ((1 : Int) == 1)) = true := by simp
    wp_walk using wpAny_loadPart' hl
    repeat (first
      | (refine wpAny_ite_false (decide_eq_false (by decide)) ?_; wp_walk using wpAny_loadPart' hl)
      | (refine wpAny_ite_true (decide_eq_true c1) ?_; wp_walk using wpAny_loadPart' hl))
    exact ⟨_, rfl, h⟩

section
variable {X : Cx}
def rCatS (K : PySem.W.Frag) : R2 := fun x y H Q => ∃ l b xs zs, x = .ref l ∧ y = .ref b ∧ SqL K H l xs ∧ SqL K H b zs ∧ xs.length + zs.length ≤ sizeLine ∧ ∀ p, H p = none → Q (.ref p) (upd H p (.lst (xs ++ zs)))
theorem op_catS : OpR X (binaryOp .Add) (rCatS X.K) := by
  intro pins s σ H x y v u Q I rx ry h
  obtain ⟨l, b, xs, zs, rfl, rfl, hH, hB, hz, q⟩ := h
  cases rx
  cases ry
  obtain ⟨its, r, ⟨⟨c1, dd1, data1, sl1⟩, n1, e1, hc1, hd1, hs1⟩, z1⟩ := I.list hH
  obtain ⟨its2, r2, ⟨⟨c2, dd2, data2, sl2⟩, n2, e2, hc2, hd2, hs2⟩, z2⟩ := I.list hB
  simp only at hc1 hd1 hs1 hc2 hd2 hs2
  subst hc1 hd1 hs1 hc2 hd2 hs2
  have hl := r.length
  have hl2 := r2.length
  have ea : its.toArray ++ its2.toArray = (its ++ its2).toArray := by simp
  refine concat_meets ⟨_, e1, rfl⟩ ⟨_, e2, rfl⟩ noFill_list_add seq_list_add PySem.F.slot_list_add PySem.F.entry_list_add (PySem.F.args_list_add_2 _ _) (list_addW l b its.toArray its2.toArray n1 n2 none none sl1 sl2 (by rw [List.size_toArray, List.size_toArray]; omega)) ⟨e1, e2, ?_⟩
  rw [ea]
  exact ⟨.ref _, _, I.lnew (t' := s.toks) (r.append r2) (by rw [List.length_append]; omega), rfl, q _ I.fresh⟩
def rRepS (K : PySem.W.Frag) : R2 := fun x y H Q => ∃ l k xs, x = .ref l ∧ y = .int k ∧ SqL K H l xs ∧ -(2 ^ 63) ≤ k ∧ k < 2 ^ 63 ∧ xs.length * k.toNat ≤ sizeLine ∧ ∀ p, H p = none → Q (.ref p) (upd H p (.lst (List.replicate k.toNat xs).flatten))
theorem op_repS : OpR X (binaryOp .Mult) (rRepS X.K) := by
  intro pins s σ H x y v u Q I rx ry h
  obtain ⟨l, k, xs, rfl, rfl, hH, h1, h2, hz, q⟩ := h
  cases rx
  obtain ⟨t, rfl⟩ := ry
  obtain ⟨its, r, ⟨⟨c1, dd1, data1, sl1⟩, n, e, hc1, hd1, hs1⟩, z1⟩ := I.list hH
  simp only at hc1 hd1 hs1
  subst hc1 hd1 hs1
  have hl : xs.length = its.length := r.length
  have hlen : its.toArray.size * k.toNat ≤ sizeLine := by rw [List.size_toArray, ← hl]; exact hz
  have hcap : ¬ its.toArray.size * k.toNat > (2 ^ 63 - 1) / 8 := by
    have : (sizeLine : Nat) ≤ (2 ^ 63 - 1) / 8 := by decide
    omega
  have hfit : ¬ (!Builtin.List.listFitsIndex k) = true := by
    rw [fitsIndex_both h1 h2]
    exact Bool.false_ne_true
  have hlong : ¬ Builtin.List.listTooLong (its.toArray.size * k.toNat) = true := by
    rw [notLongL hlen]
    exact Bool.false_ne_true
  have hnew : List.foldl (fun x1 x2 => x1 ++ x2) #[] (List.replicate (if its.toArray.isEmpty = true then 0 else k.toNat) its.toArray) = (List.replicate k.toNat its).flatten.toArray := by
    rw [size_rep]
    cases its with
    | nil => simp
    | cons a r' => rw [if_neg (by simp)]
  refine wpAny_binaryOp_repeat_ref (T := "list") (U := "int") (by decide) ⟨_, e, rfl⟩ (fun s' => typeIs_int s' k t) noFill_list_mul F.fills_int_mul F.slot_int_rmul repeat_list F.slot_int_index.lookup
    (call_meets F.slot_int_rmul (typeIs_int s k t) F.entry_int_rmul (F.args_int_rmul_2 _ _) (int_rmul_list k t l its.toArray n none sl1)
      ⟨e, rfl, ⟨_, e, rfl⟩, call_meets F.slot_list_mul ⟨_, e, rfl⟩ F.entry_list_mul (F.args_list_mul_2 _ _) (list_mulW l its.toArray n none sl1 k t hfit hcap hlong) ⟨e, ?_⟩⟩)
  rw [hnew]
  exact ⟨.ref _, _, I.lnew (t' := s.toks) (r.rep k.toNat) (by rw [PyProof.Rows.lm_len_rep_flat, Nat.mul_comm]; exact hz), rfl, q _ I.fresh⟩

def rRepT1 (K : PySem.W.Frag) : R2 := fun x y H Q => ∃ l xs, x = .ref l ∧ y = .int 1 ∧ SqT K H l xs ∧ Q (.ref l) H
theorem op_repT1 : OpR X (binaryOp .Mult) (rRepT1 X.K) := by
  intro pins s σ H x y v u Q I rx ry h
  obtain ⟨l, xs, rfl, rfl, hT, q⟩ := h
  cases rx
  obtain ⟨t, rfl⟩ := ry
  obtain ⟨its, r, ⟨⟨cls, dd, data, sl⟩, ho, hc, n, hd⟩, hs⟩ := I.tuple hT
  simp only at hc hd
  subst hc hd
  exact wpAny_binaryOp_repeat_ref (T := "tuple") (U := "int") (by decide) ⟨_, ho, rfl⟩ (fun s' => typeIs_int s' 1 t) noFill_tuple_mul F.fills_int_mul F.slot_int_rmul repeat_tuple F.slot_int_index.lookup
    (call_meets F.slot_int_rmul (typeIs_int s 1 t) F.entry_int_rmul (F.args_int_rmul_2 _ _) (int_rmul_tuple 1 t l its.toArray n dd sl)
      ⟨ho, rfl, ⟨_, ho, rfl⟩, call_meets F.slot_tuple_mul ⟨_, ho, rfl⟩ F.entry_tuple_mul (F.args_tuple_mul_2 _ _) (tuple_mul1 l its.toArray n dd sl t) ⟨ho, ⟨.ref l, H, I, rfl, q⟩⟩⟩)
end

/-! ### new lists, new tuples -/
def Kd.nl (c : Bool) : Kd := if c = true then .nw (.li .fz) else .t
def Kd.nt (c : Bool) : Kd := if c = true then .u else .t
def gG (c : Bool) (fp Z : List Addr) (H : Hp) : Hp := if c = true then hid (fp ++ Z) H else H
section
variable {K : PySem.W.Frag} {Γ : List Sh} {env : En} {σ : L2.St} {H H' : Hp} {fp Z : List Addr} {p : Addr} {vs : List V} {ds : List D} {c : Bool}
theorem new_list (E : EOk K Γ env σ H fp Z) (s : Sub H H') (hp : H' p = none) (r : Reps K (gG c fp Z H') vs ds) : HK K (Kd.nl c) H fp Z (upd H' p (.lst vs)) (.ref p) (.lst ds) := by
  have E' := E.same s
  have hpO := E'.fresh hp
  cases c with
  | true =>
    refine ⟨[p], fun b hb => ?_, by simp, .li (fp := []) upd_same (Trs.ofFz (r.mono ?_))⟩
    · rw [List.mem_singleton] at hb
      subst hb
      refine ⟨?_, hpO⟩
      cases e : H b with
      | none => rfl
      | some o => rw [s b o e] at hp; cases hp
    · intro b o h
      obtain ⟨h1, h2⟩ := hid_some h
      have nb : b ≠ p := ne_of_none h2 hp
      rw [hid_of (by simp [nb]; simpa using h1), upd_ne nb]
      exact h2
  | false => exact Rep.lst (SqL.of upd_same) (r.mono (Sub.upd hp))
theorem new_tup (E : EOk K Γ env σ H fp Z) (s : Sub H H') (hp : H' p = none) (r : Reps K (gG c fp Z H') vs ds) : HK K (Kd.nt c) H fp Z (upd H' p (.tup vs)) (.ref p) (.tup ds) := by
  have E' := E.same s
  have hpO := E'.fresh hp
  cases c with
  | true =>
    show Rep K (hid (fp ++ Z) (upd H' p (.tup vs))) (.ref p) (.tup ds)
    rw [hid_upd hpO]
    exact .tup (SqT.of upd_same) (r.mono (Sub.upd (show hid (fp ++ Z) H' p = none by rw [hid_of hpO]; exact hp)))
  | false => exact Rep.tup (SqT.of upd_same) (r.mono (Sub.upd hp))
theorem Kd.G_and {a b : Kd} {fp Z : List Addr} {H : Hp} : Sub (a.G fp Z H) (gG (a.clean && b.clean) fp Z H) ∧ Sub (b.G fp Z H) (gG (a.clean && b.clean) fp Z H) := by
  unfold Kd.G gG
  cases a.clean <;> cases b.clean
  · exact ⟨Sub.refl, Sub.refl⟩
  · exact ⟨Sub.refl, hid_sub⟩
  · exact ⟨hid_sub, Sub.refl⟩
  · exact ⟨Sub.refl, Sub.refl⟩
theorem Kd.G_one {a : Kd} {fp Z : List Addr} {H : Hp} : a.G fp Z H = gG a.clean fp Z H := rfl
theorem nt_of {v : V} {d : D} (h : Rep K (gG c fp Z H') v d) : HK K (Kd.nt c) H fp Z H' v d := by
  cases c with
  | true => exact h
  | false => exact h
end

section
variable {X : Cx} {Γ : List Sh} {a b c e i : Expr} {es : List Expr} {fa fb fc f : En → Option D} {fs : En → Option (List D)} {ka kb kc k : Kd} {ks : List Kd} {pos : Pos}
/-! displays -/
theorem sa_nil : SAs X Γ [] a0 [] := ⟨_, pa_nil, fun σ H Q env fp Z ds E hf hQ => by cases hf; exact hQ _ H Sub.refl .nil⟩
theorem sa_cons (ha : SP X Γ e f k) (hr : SAs X Γ es fs ks) (hs : starEach (e :: es) X.env = (false, eval e X.env) :: starEach es X.env := by rfl) : SAs X Γ (e :: es) (Py.a1 f fs) (k :: ks) := by
  obtain ⟨t, p, q⟩ := ha.ex
  obtain ⟨t2, p2, q2⟩ := hr.ex
  refine ⟨_, pa_cons p p2 hs, fun σ H Q env fp Z ds E hf hQ => ?_⟩
  obtain ⟨x, hx, hf⟩ := Option.bind_eq_some_iff.mp hf
  obtain ⟨xs, hxs, hf⟩ := Option.bind_eq_some_iff.mp hf
  cases hf
  refine q σ H _ env fp Z x E hx fun v H1 s1 h1 => q2 σ H1 _ env fp Z xs (E.same s1) hxs fun vs H2 s2 h2 => hQ _ H2 (s1.trans s2) (.cons (h1.more s2) (h2.less s1))
def tupD (ds : List D) : Option D := if ds.length ≤ sizeLine then some (.tup ds) else none
def lstD (ds : List D) : Option D := if ds.length ≤ sizeLine then some (.lst ds) else none
theorem HKs.gG {K : PySem.W.Frag} {H H' : Hp} {fp Z : List Addr} {ks : List Kd} {vs : List V} {ds : List D} (h : HKs K H fp Z H' ks vs ds) : Reps K (gG (ks.all Kd.cu) fp Z H') vs ds := by
  unfold Py.gG
  split
  · rename_i c; exact h.repsU c
  · exact h.reps
theorem s_tup {j : Nat} (h : SAs X Γ es fs ks) : SP X Γ (.Tuple es j pos) (bA fs tupD) (Kd.nt (ks.all Kd.cu)) := by
  obtain ⟨t, p, q⟩ := h.ex
  refine ⟨_, pe_tup p, fun σ H Q env fp Z d E hf hQ => ?_⟩
  obtain ⟨xs, hx, hd⟩ := Option.bind_eq_some_iff.mp hf
  unfold tupD at hd
  split at hd
  · rename_i hl
    cases hd
    exact q σ H _ env fp Z xs E hx fun vs H1 s1 h1 => ⟨by rw [h1.reps.length]; exact hl, fun p hp => hQ _ _ (s1.trans (Sub.upd hp)) (new_tup E s1 hp h1.gG)⟩
  · cases hd
theorem s_lst (h : SAs X Γ es fs ks) : SP X Γ (.List es pos) (bA fs lstD) (Kd.nl (ks.all Kd.cu)) := by
  obtain ⟨t, p, q⟩ := h.ex
  refine ⟨_, pe_lst p, fun σ H Q env fp Z d E hf hQ => ?_⟩
  obtain ⟨xs, hx, hd⟩ := Option.bind_eq_some_iff.mp hf
  unfold lstD at hd
  split at hd
  · rename_i hl
    cases hd
    exact q σ H _ env fp Z xs E hx fun vs H1 s1 h1 => ⟨by rw [h1.reps.length]; exact hl, fun p hp => hQ _ _ (s1.trans (Sub.upd hp)) (new_list E s1 hp h1.gG)⟩
  · cases hd
/-! sums -/
def adD : D → D → Option D
  | .int i, .int j => some (.int (i + j))
  | .str x, .str y => if x.length + y.length ≤ sizeLine then some (.str (x ++ y)) else none
  | .lst x, .lst y => if x.length + y.length ≤ sizeLine then some (.lst (x ++ y)) else none
  | .tup x, .tup y => if x.length + y.length ≤ sizeLine then some (.tup (x ++ y)) else none
  | _, _ => none
def caL : D → D → Option D
  | .lst x, .lst y => if x.length + y.length ≤ sizeLine then some (.lst (x ++ y)) else none
  | _, _ => none
theorem caL_ok {x y d : D} (h : caL x y = some d) : ∃ xs ys, x = .lst xs ∧ y = .lst ys ∧ xs.length + ys.length ≤ sizeLine ∧ d = .lst (xs ++ ys) := by
  cases x with
  | lst xs => cases y with
    | lst ys =>
      simp only [caL] at h
      split at h
      · rename_i c; cases h; exact ⟨_, _, rfl, rfl, c, rfl⟩
      · cases h
    | _ => cases h
  | _ => cases h
theorem s_catL (ha : SP X Γ a fa ka) (hb : SP X Γ b fb kb) : SP X Γ (.BinOp a .Add b pos) (b2 fa fb caL) (Kd.nl (ka.clean && kb.clean)) := by
  obtain ⟨ta, pa, qa⟩ := ha.ex
  obtain ⟨tb, pb, qb⟩ := hb.ex
  refine ⟨_, pe_op op_catS pa pb, fun σ H Q env fp Z d E hf hQ => ?_⟩
  obtain ⟨x, y, hx, hy, hd⟩ := bind2 hf
  obtain ⟨xs, ys, rfl, rfl, hl, rfl⟩ := caL_ok hd
  refine two qa qb E hx hy fun v w H' s h1 h2 => ?_
  obtain ⟨p1, us, rfl, l1, r1⟩ := h1.lst
  obtain ⟨p2, ws, rfl, l2, r2⟩ := h2.lst
  refine ⟨_, _, _, _, rfl, rfl, l1, l2, by rw [r1.length, r2.length]; exact hl, fun p hp => hQ _ _ (s.trans (Sub.upd hp)) (new_list E s hp ((r1.mono Kd.G_and.1).append (r2.mono Kd.G_and.2)))⟩
theorem adD_ok {x y d : D} (h : adD x y = some d) : (∃ i j, x = .int i ∧ y = .int j ∧ d = .int (i + j)) ∨ (∃ i j, x = .str i ∧ y = .str j ∧ i.length + j.length ≤ sizeLine ∧ d = .str (i ++ j)) ∨
    (∃ xs ys, x = .lst xs ∧ y = .lst ys ∧ xs.length + ys.length ≤ sizeLine ∧ d = .lst (xs ++ ys)) ∨ (∃ xs ys, x = .tup xs ∧ y = .tup ys ∧ xs.length + ys.length ≤ sizeLine ∧ d = .tup (xs ++ ys)) := by
  cases x with
  | int i => cases y with
    | int j => cases h; exact .inl ⟨_, _, rfl, rfl, rfl⟩
    | _ => cases h
  | str i => cases y with
    | str j =>
      simp only [adD] at h
      split at h
      · rename_i c; cases h; exact .inr (.inl ⟨_, _, rfl, rfl, c, rfl⟩)
      · cases h
    | _ => cases h
  | lst i => cases y with
    | lst j =>
      simp only [adD] at h
      split at h
      · rename_i c; cases h; exact .inr (.inr (.inl ⟨_, _, rfl, rfl, c, rfl⟩))
      · cases h
    | _ => cases h
  | tup i => cases y with
    | tup j =>
      simp only [adD] at h
      split at h
      · rename_i c; cases h; exact .inr (.inr (.inr ⟨_, _, rfl, rfl, c, rfl⟩))
      · cases h
    | _ => cases h
  | _ => cases h
theorem s_add (ha : SP X Γ a fa ka) (hb : SP X Γ b fb kb) : SP X Γ (.BinOp a .Add b pos) (b2 fa fb adD) (Kd.nt (ka.clean && kb.clean)) := by
  obtain ⟨ta, pa, qa⟩ := ha.ex
  obtain ⟨tb, pb, qb⟩ := hb.ex
  refine ⟨_, pe_op (op_add.or (op_add_str.or (op_catS.or op_catA))) pa pb, fun σ H Q env fp Z d E hf hQ => ?_⟩
  obtain ⟨x, y, hx, hy, hd⟩ := bind2 hf
  refine two qa qb E hx hy fun v w H' s h1 h2 => ?_
  rcases adD_ok hd with ⟨i, j, rfl, rfl, rfl⟩ | ⟨i, j, rfl, rfl, hl, rfl⟩ | ⟨xs, ys, rfl, rfl, hl, rfl⟩ | ⟨xs, ys, rfl, rfl, hl, rfl⟩
  · cases h1.rep
    cases h2.rep
    exact .inl ⟨_, _, rfl, rfl, hQ _ _ s (nt_of (.int _))⟩
  · cases h1.rep
    cases h2.rep
    exact .inr (.inl ⟨_, _, rfl, rfl, hl, hQ _ _ s (nt_of (.str _))⟩)
  · obtain ⟨p1, us, rfl, l1, r1⟩ := h1.lst
    obtain ⟨p2, ws, rfl, l2, r2⟩ := h2.lst
    refine .inr (.inr (.inl ⟨_, _, _, _, rfl, rfl, l1, l2, by rw [r1.length, r2.length]; exact hl, fun p hp => hQ _ _ (s.trans (Sub.upd hp)) ?_⟩))
    have h := new_list E s hp ((r1.mono Kd.G_and.1).append (r2.mono Kd.G_and.2))
    cases hc : ka.clean && kb.clean with
    | true => rw [hc] at h; exact h.nwU
    | false => rw [hc] at h; exact h
  · obtain ⟨p1, us, rfl, l1, r1⟩ := h1.tup
    obtain ⟨p2, ws, rfl, l2, r2⟩ := h2.tup
    have e1 := r1.length
    have e2 := r2.length
    have nl : ∀ {l : List V} {m : List D}, l.length = m.length → l = [] → m = [] := fun e z => List.eq_nil_of_length_eq_zero (by rw [← e, z]; rfl)
    -- where the operand itself is handed on, it is told whole
    have whole : ∀ {kk : Kd} {p : Addr} {us : List V} {zs : List D}, HK X.K kk H fp Z H' (.ref p) (.tup zs) → Sub (kk.G fp Z H') (gG (ka.clean && kb.clean) fp Z H') → HK X.K (Kd.nt (ka.clean && kb.clean)) H fp Z H' (.ref p) (.tup zs) := fun {kk p us zs} h sG => by
      refine nt_of ?_
      cases kk with
      | u => exact Rep.mono sG h
      | t => exact Rep.mono sG h
      | nw q => exact Rep.mono sG h.nwU
      | vw q =>
        obtain ⟨fv, z1, z2, t⟩ := h
        cases t with
        | fz t => exact Rep.mono sG t
        | un1 t => cases t
        | un2 t _ => exact Rep.mono sG t
    refine .inr (.inr (.inr ⟨_, _, _, _, rfl, rfl, l1, l2, by rw [r1.length, r2.length]; exact hl, fun z => ?_, fun z z2 => ?_, fun z z2 p hp => hQ _ _ (s.trans (Sub.upd hp)) (new_tup E s hp ((r1.mono Kd.G_and.1).append (r2.mono Kd.G_and.2)))⟩))
    · have : xs = [] := nl e1 z
      subst this
      exact hQ _ _ s (by rw [List.nil_append]; exact whole (us := ws) h2 Kd.G_and.2)
    · have : ys = [] := nl e2 z2
      subst this
      exact hQ _ _ s (by rw [List.append_nil]; exact whole (us := us) h1 Kd.G_and.1)
/-! items -/
def ixD : D → D → Option D
  | .lst xs, .int i => atI xs i
  | .tup xs, .int i => atI xs i
  | .str x, .int i => if x.length ≤ sizeLine then (atI x.cps.toList i).map fun c => .str ⟨#[c]⟩ else none
  | _, _ => none
theorem at_reps {K : PySem.W.Frag} {G : Hp} {vs : List V} {ds : List D} (r : Reps K G vs ds) {i : Int} {d : D} (h : atI ds i = some d) : ∃ v, atI vs i = some v ∧ Rep K G v d := by
  unfold atI at h
  obtain ⟨j, hj, hd⟩ := Option.bind_eq_some_iff.mp h
  obtain ⟨v, hv, q⟩ := r.get hd
  refine ⟨v, ?_, q⟩
  unfold atI
  rw [r.length, hj]
  exact hv
theorem s_ix (ha : SP X Γ a fa ka) (hb : SP X Γ b fb kb) (hs : PlainIx b := by first | exact (fun _ _ => rfl) | (intro _ _; rfl)) : SP X Γ (.Subscript a b pos) (b2 fa fb ixD) ka.el := by
  obtain ⟨ta, pa, qa⟩ := ha.ex
  obtain ⟨tb, pb, qb⟩ := hb.ex
  refine ⟨_, pe_ix ix_seq pa pb hs, fun σ H Q env fp Z d E hf hQ => ?_⟩
  obtain ⟨x, y, hx, hy, hd⟩ := bind2 hf
  refine two qa qb E hx hy fun v w H' s h1 h2 => ?_
  cases y with
  | int i =>
    cases h2.rep
    cases x with
    | lst xs =>
      obtain ⟨p1, us, rfl, l1, r1⟩ := h1.lst
      obtain ⟨u, hu, ru⟩ := at_reps r1 (i := i) hd
      exact .inl ⟨_, _, _, _, rfl, rfl, l1, hu, hQ _ _ s (HK.el ru)⟩
    | tup xs =>
      obtain ⟨p1, us, rfl, l1, r1⟩ := h1.tup
      obtain ⟨u, hu, ru⟩ := at_reps r1 (i := i) hd
      exact .inr (.inl ⟨_, _, _, _, rfl, rfl, l1, hu, hQ _ _ s (HK.el ru)⟩)
    | str x =>
      cases h1.rep
      simp only [ixD] at hd
      split at hd
      · rename_i hl
        obtain ⟨c, hc, e⟩ := Option.map_eq_some_iff.mp hd
        subst e
        exact .inr (.inr ⟨_, _, _, rfl, rfl, hl, hc, hQ _ _ s (HK.el (.str _))⟩)
      · cases hd
    | _ => cases hd
  | _ => cases x <;> cases hd
end
end Py

set_option Elab.async false
set_option linter.all false
set_option maxRecDepth 100000
set_option maxHeartbeats 4000000
/-! Own layer: slices, membership, truth, built-in calls. -/
namespace Py
open PySem PySem.Spec PyProof.Rows L2
/-- a value's kind where it is handed on as it is -/
theorem HK.pass {K : PySem.W.Frag} {k : Kd} {H H' : Hp} {fp Z : List Addr} {v : V} {ds : List D} (h : HK K k H fp Z H' v (.tup ds)) : HK K (Kd.nt k.clean) H fp Z H' v (.tup ds) := by
  refine nt_of ?_
  cases k with
  | u => exact h
  | t => exact h
  | nw q => exact h.nwU
  | vw q =>
    obtain ⟨fv, z1, z2, t⟩ := h
    cases t with
    | fz t => exact t
    | un1 t => cases t
    | un2 t _ => exact t
section
variable {X : Cx} {Γ : List Sh} {a b c e i : Expr} {es rest : List Expr} {fa fb fc f : En → Option D} {fs : En → Option (List D)} {ka kb kc k : Kd} {ks : List Kd} {pos p2 : Pos}
/-! ### slices -/
structure SO (X : Cx) (Γ : List Sh) (e : Option Expr) (f : En → Option (Option Int)) : Prop where
  ex : ∃ t, PO X e t ∧ ∀ (σ : L2.St) (H : Hp) (Q : Option Int → Hp → Prop) (env : En) (fp Z : List Addr) (o : Option Int), EOk X.K Γ env σ H fp Z → f env = some o → (∀ H', Sub H H' → Q o H') → t σ H Q
def oN : En → Option (Option Int) := fun _ => some none
def asI : D → Option (Option Int)
  | .int i => some (some i)
  | _ => none
def oS (f : En → Option D) : En → Option (Option Int) := fun env => (f env).bind asI
theorem so_none : SO X Γ none oN := ⟨_, po_none, fun σ H Q env fp Z o E hf hQ => by cases hf; exact hQ H Sub.refl⟩
theorem so_some (h : SP X Γ e f k) : SO X Γ (some e) (oS f) := by
  obtain ⟨t, p, q⟩ := h.ex
  refine ⟨_, po_some p, fun σ H Q env fp Z o E hf hQ => ?_⟩
  obtain ⟨x, hx, hf⟩ := Option.bind_eq_some_iff.mp hf
  refine q σ H _ env fp Z x E hx fun v H1 s1 h1 => ?_
  cases x with
  | int i => cases hf; cases h1.rep; exact ⟨_, rfl, hQ H1 s1⟩
  | _ => cases hf
def cut {α : Type} (xs : List α) (lo hi : Option Int) : List α := (xs.drop (HT.sIx xs.length 0 lo)).take (HT.sIx xs.length xs.length hi - HT.sIx xs.length 0 lo)
theorem Reps.cut {K : PySem.W.Frag} {G : Hp} {vs : List V} {ds : List D} (r : Reps K G vs ds) (lo hi : Option Int) : Reps K G (cutV vs lo hi) (Py.cut ds lo hi) := by
  unfold cutV Py.cut
  rw [r.length]
  exact (r.drop _).take _
def b3 (f : En → Option D) (l h : En → Option (Option Int)) (g : D → Option Int → Option Int → Option D) : En → Option D := fun env => (f env).bind fun x => (l env).bind fun lo => (h env).bind fun hi => g x lo hi
def slL : D → Option Int → Option Int → Option D
  | .lst xs, lo, hi => some (.lst (cut xs lo hi))
  | _, _, _ => none
def slD : D → Option Int → Option Int → Option D
  | .lst xs, lo, hi => some (.lst (cut xs lo hi))
  | .tup xs, lo, hi => some (.tup (cut xs lo hi))
  | .str x, lo, hi => if x.length ≤ sizeLine then some (.str (cutS x lo hi)) else none
  | _, _, _ => none
theorem three {ta : TE} {tl th : TO} {fl fh : En → Option (Option Int)} (ha : ∀ (σ : L2.St) (H : Hp) (Q : VK) (env : En) (fp Z : List Addr) (d : D), EOk X.K Γ env σ H fp Z → fa env = some d → (∀ v H', Sub H H' → HK X.K ka H fp Z H' v d → Q v H') → ta σ H Q)
    (hl : ∀ (σ : L2.St) (H : Hp) (Q : Option Int → Hp → Prop) (env : En) (fp Z : List Addr) (o : Option Int), EOk X.K Γ env σ H fp Z → fl env = some o → (∀ H', Sub H H' → Q o H') → tl σ H Q)
    (hh : ∀ (σ : L2.St) (H : Hp) (Q : Option Int → Hp → Prop) (env : En) (fp Z : List Addr) (o : Option Int), EOk X.K Γ env σ H fp Z → fh env = some o → (∀ H', Sub H H' → Q o H') → th σ H Q)
    {σ : L2.St} {H : Hp} {env : En} {fp Z : List Addr} {g : D → Option Int → Option Int → Option D} {d : D} {R : V → Option Int → Option Int → Hp → Prop} (E : EOk X.K Γ env σ H fp Z) (hf : b3 fa fl fh g env = some d)
    (h : ∀ x lo hi v H', g x lo hi = some d → Sub H H' → HK X.K ka H fp Z H' v x → R v lo hi H') : ta σ H fun v H1 => tl σ H1 fun lo H2 => th σ H2 fun hi H3 => R v lo hi H3 := by
  obtain ⟨x, hx, hf⟩ := Option.bind_eq_some_iff.mp hf
  obtain ⟨lo, h1, hf⟩ := Option.bind_eq_some_iff.mp hf
  obtain ⟨hi, h2, hf⟩ := Option.bind_eq_some_iff.mp hf
  exact ha σ H _ env fp Z x E hx fun v H1 s1 k1 => hl σ H1 _ env fp Z lo (E.same s1) h1 fun H2 s2 => hh σ H2 _ env fp Z hi (E.same (s1.trans s2)) h2 fun H3 s3 => h x lo hi v H3 hf (s1.trans (s2.trans s3)) (k1.more (s2.trans s3))
theorem s_slL {lo hi : Option Expr} {fl fh : En → Option (Option Int)} (ha : SP X Γ a fa ka) (hl : SO X Γ lo fl) (hh : SO X Γ hi fh) : SP X Γ (.Subscript a (.Slice lo hi none p2) pos) (b3 fa fl fh slL) (Kd.nl ka.clean) := by
  obtain ⟨ta, pa, qa⟩ := ha.ex
  obtain ⟨tl, pl, ql⟩ := hl.ex
  obtain ⟨th, ph, qh⟩ := hh.ex
  refine ⟨_, pe_slice sl_list pa pl ph, fun σ H Q env fp Z d E hf hQ => ?_⟩
  refine three qa ql qh E hf fun x lo hi v H' hd s k1 => ?_
  cases x with
  | lst xs =>
    cases hd
    obtain ⟨p1, us, rfl, l1, r1⟩ := k1.lst
    exact ⟨_, _, rfl, l1, fun p hp => hQ _ _ (s.trans (Sub.upd hp)) (new_list E s hp (r1.cut lo hi))⟩
  | _ => cases hd
theorem s_sl {lo hi : Option Expr} {fl fh : En → Option (Option Int)} (ha : SP X Γ a fa ka) (hl : SO X Γ lo fl) (hh : SO X Γ hi fh) : SP X Γ (.Subscript a (.Slice lo hi none p2) pos) (b3 fa fl fh slD) (Kd.nt ka.clean) := by
  obtain ⟨ta, pa, qa⟩ := ha.ex
  obtain ⟨tl, pl, ql⟩ := hl.ex
  obtain ⟨th, ph, qh⟩ := hh.ex
  refine ⟨_, pe_slice (sl_list.or (sl_tupA.or sl_str)) pa pl ph, fun σ H Q env fp Z d E hf hQ => ?_⟩
  refine three qa ql qh E hf fun x lo hi v H' hd s k1 => ?_
  cases x with
  | lst xs =>
    cases hd
    obtain ⟨p1, us, rfl, l1, r1⟩ := k1.lst
    refine .inl ⟨_, _, rfl, l1, fun p hp => hQ _ _ (s.trans (Sub.upd hp)) ?_⟩
    have h := new_list E s hp (r1.cut lo hi)
    cases hc : ka.clean with
    | true => rw [Kd.G_one, hc] at r1; exact (new_list (c := true) E s hp (r1.cut lo hi)).nwU
    | false => rw [Kd.G_one, hc] at r1; exact new_list (c := false) E s hp (r1.cut lo hi)
  | tup xs =>
    cases hd
    obtain ⟨p1, us, rfl, l1, r1⟩ := k1.tup
    refine .inr (.inl ⟨_, _, rfl, l1, fun ⟨z1, z2⟩ => ?_, fun _ p hp => hQ _ _ (s.trans (Sub.upd hp)) (new_tup E s hp (r1.cut lo hi))⟩)
    have e : cut xs lo hi = xs := by
      rw [r1.length] at z1 z2
      unfold cut
      rw [z1, z2, List.drop_zero, Nat.sub_zero, List.take_length]
    rw [e] at hQ
    exact hQ _ _ s k1.pass
  | str x =>
    cases k1.rep
    simp only [slD] at hd
    split at hd
    · rename_i hl
      cases hd
      exact .inr (.inr ⟨_, rfl, hl, hQ _ _ s (nt_of (.str _))⟩)
    · cases hd
  | _ => cases hd
/-! ### membership -/
mutual
theorem eqV_py : ∀ {y x : D}, y.flat = true → x.flat = true → eqV y.v x.v = PyData.eqv y.py x.py
  | y, x, hy, hx => by
    cases y <;> first | (cases hy; done) | (cases x <;> first | (cases hx; done) | (simp [D.v, D.py, eqV, PyData.eqv]; done) | rfl)
end
def inAll (x : D) (ys : List D) : Option Bool :=
  if (x.flat && ys.all D.flat) = true then some (ys.any fun y => PyData.eqv y.py x.py) else none
def inD (neg : Bool) (x y : D) : Option D := match y with
  | .tup ys => (inAll x ys).map fun b => .bl (xor neg b)
  | .lst ys => if (x.ok 60 && D.oks 59 ys) = true then some (.bl (xor neg (ys.any fun y => PyData.eqv y.py x.py))) else none
  | .str y => (match x with
    | .str x => some (.bl (xor neg (!(Builtin.Str.occurrences y x 0 y.length 1).isEmpty)))
    | _ => none)
  | _ => none
theorem Reps.vs {K : PySem.W.Frag} {G : Hp} : ∀ {vs : List V} {ds : List D}, Reps K G vs ds → ds.all D.flat = true → vs = ds.map D.v
  | _, _, .nil, _ => rfl
  | _, _, .cons (d := d) h r, f => by
    have f' := Bool.and_eq_true_iff.mp (show (d.flat && _) = true from f)
    rw [List.map_cons, h.v f'.1, Reps.vs r f'.2]
theorem flat_v {d : D} (h : d.flat = true) : flatV d.v = true := by cases d <;> first | (cases h; done) | rfl
theorem flats_v : ∀ {ds : List D}, ds.all D.flat = true → (ds.map D.v).all flatV = true
  | [], _ => rfl
  | d :: ds, f => by
    have f' := Bool.and_eq_true_iff.mp (show (d.flat && _) = true from f)
    rw [List.map_cons, List.all_cons, flat_v f'.1, flats_v f'.2] <;> rfl
theorem any_v {x : D} (hx : x.flat = true) : ∀ {ds : List D}, ds.all D.flat = true → inV x.v (ds.map D.v) = ds.any fun y => PyData.eqv y.py x.py
  | [], _ => rfl
  | d :: ds, f => by
    have f' := Bool.and_eq_true_iff.mp (show (d.flat && _) = true from f)
    have ih := any_v hx (ds := ds) f'.2
    unfold inV at ih ⊢
    rw [List.map_cons, List.any_cons, List.any_cons, ih, eqV_py f'.1 hx]
theorem any_pys {p : PyData → Bool} : ∀ {ds : List D}, (D.pys ds).any p = ds.any fun y => p y.py
  | [] => rfl
  | d :: ds => by
    show (d.py :: D.pys ds).any p = _
    rw [List.any_cons, List.any_cons, any_pys]
theorem fl_in : Fl2 X.K (fun x y H Q => rIn X.K false x y H Q ∨ rInD X.K x y H Q ∨ ∃ i j, x = .str i ∧ y = .str j ∧ Q (.bl (!(Builtin.Str.occurrences j i 0 j.length 1).isEmpty)) H) (inD false) := fun x y dx dy d H hx hy h => by
  cases dy with
  | tup ys =>
    obtain ⟨b, hb, e⟩ := Option.map_eq_some_iff.mp h
    unfold inAll at hb
    split at hb
    · rename_i c
      have c' := Bool.and_eq_true_iff.mp c
      cases hb
      cases hy with
      | tup q r =>
        rw [← e]
        refine ⟨rfl, fun Q z => .inl ⟨_, _, rfl, .inr q, ?_, ?_, ?_⟩⟩
        · rw [hx.v c'.1]; exact flat_v c'.1
        · rw [r.vs c'.2]; exact flats_v c'.2
        · rw [hx.v c'.1, r.vs c'.2, if_neg (by decide), any_v c'.1 c'.2]
          simpa [D.v] using z
    · cases hb
  | lst ys =>
    simp only [inD] at h
    split at h
    · rename_i c
      have c' := Bool.and_eq_true_iff.mp c
      cases h
      have oky : (D.lst ys).ok 60 = true := c'.2
      have dy := hy.dp (n := 60) oky
      refine ⟨rfl, fun Q z => .inr (.inl ⟨_, _, hx.dp c'.1, dy, D.ok_shaped c'.1 (by decide), D.ok_shaped oky (by decide), ?_⟩)⟩
      rw [any_pys]
      simpa [D.v] using z
    · cases h
  | str y =>
    cases dx with
    | str x' => cases h; cases hx; cases hy; exact ⟨rfl, fun Q z => .inr (.inr ⟨_, _, rfl, rfl, by simpa [D.v] using z⟩)⟩
    | _ => cases h
  | _ => cases h
theorem fl_notIn : Fl2 X.K (fun x y H Q => rIn X.K true x y H Q ∨ rNotInD X.K x y H Q ∨ ∃ i j, x = .str i ∧ y = .str j ∧ Q (.bl (!(!(Builtin.Str.occurrences j i 0 j.length 1).isEmpty))) H) (inD true) := fun x y dx dy d H hx hy h => by
  cases dy with
  | tup ys =>
    obtain ⟨b, hb, e⟩ := Option.map_eq_some_iff.mp h
    unfold inAll at hb
    split at hb
    · rename_i c
      have c' := Bool.and_eq_true_iff.mp c
      cases hb
      cases hy with
      | tup q r =>
        rw [← e]
        refine ⟨rfl, fun Q z => .inl ⟨_, _, rfl, .inr q, ?_, ?_, ?_⟩⟩
        · rw [hx.v c'.1]; exact flat_v c'.1
        · rw [r.vs c'.2]; exact flats_v c'.2
        · rw [hx.v c'.1, r.vs c'.2, if_pos rfl, any_v c'.1 c'.2]
          simpa [D.v] using z
    · cases hb
  | lst ys =>
    simp only [inD] at h
    split at h
    · rename_i c
      have c' := Bool.and_eq_true_iff.mp c
      cases h
      have oky : (D.lst ys).ok 60 = true := c'.2
      have dy := hy.dp (n := 60) oky
      refine ⟨rfl, fun Q z => .inr (.inl ⟨_, _, hx.dp c'.1, dy, D.ok_shaped c'.1 (by decide), D.ok_shaped oky (by decide), ?_⟩)⟩
      rw [any_pys]
      simpa [D.v] using z
    · cases h
  | str y =>
    cases dx with
    | str x' => cases h; cases hx; cases hy; exact ⟨rfl, fun Q z => .inr (.inr ⟨_, _, rfl, rfl, by simpa [D.v] using z⟩)⟩
    | _ => cases h
  | _ => cases h
theorem op_inAny (hu : X.A.units + 65 < cLine) : OpR X (compareOp .In) (fun x y H Q => rIn X.K false x y H Q ∨ rInD X.K x y H Q ∨ ∃ i j, x = .str i ∧ y = .str j ∧ Q (.bl (!(Builtin.Str.occurrences j i 0 j.length 1).isEmpty)) H) := op_in_seq.or ((op_inD hu).or op_in_str)
theorem op_notInAny (hu : X.A.units + 65 < cLine) : OpR X (compareOp .NotIn) (fun x y H Q => rIn X.K true x y H Q ∨ rNotInD X.K x y H Q ∨ ∃ i j, x = .str i ∧ y = .str j ∧ Q (.bl (!(!(Builtin.Str.occurrences j i 0 j.length 1).isEmpty))) H) := op_notIn_seq.or ((op_notInD hu).or op_notIn_str)
/-! ### truth -/
def truD : D → Option Bool
  | .non => some false
  | .bl b => some b
  | .int i => some (i != 0)
  | .lst xs => some (!xs.isEmpty)
  | .tup xs => some (!xs.isEmpty)
  | .str x => if x.length ≤ sizeLine then some ((x.length : Int) != 0) else none
  | _ => none
theorem st_tru (ha : SP X Γ a fa ka) (he : ∀ whole, isTrue a X.env whole = (do let v ← whole; standAt a.pos; holding [v] (truthy v)) := by intro _; rfl) : ST X Γ a (tb fa truD) := by
  obtain ⟨ta, pa, qa⟩ := ha.ex
  refine ⟨_, pt_truth pa he, fun σ H Q env fp Z b E hf hQ => ?_⟩
  obtain ⟨x, hx, hd⟩ := Option.bind_eq_some_iff.mp hf
  refine qa σ H _ env fp Z x E hx fun v H1 s1 h1 => ⟨b, ?_, hQ H1 s1⟩
  have r := h1.rep
  cases x with
  | non => cases hd; cases r; rfl
  | bl _ => cases hd; cases r; rfl
  | int _ => cases hd; cases r; rfl
  | str z =>
    simp only [truD] at hd
    split at hd
    · rename_i hl; cases hd; cases r; exact ⟨hl, rfl⟩
    · cases hd
  | lst z =>
    cases hd
    cases r with
    | lst q r => exact .inl ⟨_, q, by cases r <;> rfl⟩
  | tup z =>
    cases hd
    cases r with
    | tup q r => exact .inr (.inl ⟨_, q, by cases r <;> rfl⟩)
  | _ => cases hd
def tN (f : En → Option Bool) : En → Option Bool := fun env => (f env).map (!·)
def tA (f h : En → Option Bool) : En → Option Bool := fun env => (f env).bind fun b => if b = true then h env else some false
def tO (f h : En → Option Bool) : En → Option Bool := fun env => (f env).bind fun b => if b = true then some true else h env
theorem st_not {g : En → Option Bool} (h : ST X Γ a g) : ST X Γ (.UnaryOp .Not a pos) (tN g) := by
  obtain ⟨t, p, q⟩ := h.ex
  refine ⟨_, pt_not p, fun σ H Q env fp Z b E hf hQ => ?_⟩
  obtain ⟨x, hx, e⟩ := Option.map_eq_some_iff.mp hf
  subst e
  exact q σ H _ env fp Z x E hx fun H1 s1 => hQ H1 s1
/-- and, or as tests -/
structure SW (X : Cx) (Γ : List Sh) (e : Expr) (f : En → Option Bool) : Prop where
  ex : ∃ t, PW X e t ∧ ∀ (σ : L2.St) (H : Hp) (Q : Bool → Hp → Prop) (env : En) (fp Z : List Addr) (b : Bool), EOk X.K Γ env σ H fp Z → f env = some b → (∀ H', Sub H H' → Q b H') → t σ H Q
theorem SW.st {g : En → Option Bool} (h : SW X Γ a g) : ST X Γ a g := by
  obtain ⟨t, p, q⟩ := h.ex
  exact ⟨t, p.pt, q⟩
theorem sw_and1 {g : En → Option Bool} (h : ST X Γ a g) : SW X Γ (.BoolOp .And [a] pos) g := by
  obtain ⟨t, p, q⟩ := h.ex
  exact ⟨t, pw_and1 p, q⟩
theorem sw_or1 {g : En → Option Bool} (h : ST X Γ a g) : SW X Γ (.BoolOp .Or [a] pos) g := by
  obtain ⟨t, p, q⟩ := h.ex
  exact ⟨t, pw_or1 p, q⟩
theorem sw_and {g g2 : En → Option Bool} (h : ST X Γ a g) (h2 : SW X Γ (.BoolOp .And (b :: rest) pos) g2) : SW X Γ (.BoolOp .And (a :: b :: rest) pos) (tA g g2) := by
  obtain ⟨t, p, q⟩ := h.ex
  obtain ⟨t2, p2, q2⟩ := h2.ex
  refine ⟨_, pw_and p p2, fun σ H Q env fp Z b E hf hQ => ?_⟩
  obtain ⟨x, hx, hf⟩ := Option.bind_eq_some_iff.mp hf
  refine q σ H _ env fp Z x E hx fun H1 s1 => ?_
  cases x with
  | true =>
    rw [if_pos rfl] at hf ⊢
    exact q2 σ H1 _ env fp Z b (E.same s1) hf fun H2 s2 => hQ H2 (s1.trans s2)
  | false =>
    rw [if_neg Bool.false_ne_true] at hf ⊢
    cases hf
    exact hQ H1 s1
theorem sw_or {g g2 : En → Option Bool} (h : ST X Γ a g) (h2 : SW X Γ (.BoolOp .Or (b :: rest) pos) g2) : SW X Γ (.BoolOp .Or (a :: b :: rest) pos) (tO g g2) := by
  obtain ⟨t, p, q⟩ := h.ex
  obtain ⟨t2, p2, q2⟩ := h2.ex
  refine ⟨_, pw_or p p2, fun σ H Q env fp Z b E hf hQ => ?_⟩
  obtain ⟨x, hx, hf⟩ := Option.bind_eq_some_iff.mp hf
  refine q σ H _ env fp Z x E hx fun H1 s1 => ?_
  cases x with
  | true =>
    rw [if_pos rfl] at hf ⊢
    cases hf
    exact hQ H1 s1
  | false =>
    rw [if_neg Bool.false_ne_true] at hf ⊢
    exact q2 σ H1 _ env fp Z b (E.same s1) hf fun H2 s2 => hQ H2 (s1.trans s2)
/-! .. as values: all but the last one True or False -/
def vA (f h : En → Option D) : En → Option D := fun env => (f env).bind fun x => (asB x).bind fun b => if b = true then h env else some (.bl false)
def vO (f h : En → Option D) : En → Option D := fun env => (f env).bind fun x => (asB x).bind fun b => if b = true then some (.bl true) else h env
def vN (f : En → Option D) : En → Option D := fun env => (f env).bind fun x => (asB x).map fun b => .bl (!b)
theorem s_one {op : BoolOp} (h : SP X Γ a fa .u) : SP X Γ (.BoolOp op [a] pos) fa .u := by
  obtain ⟨t, p, q⟩ := h.ex
  exact ⟨t, pe_one p, q⟩
theorem s_and (h : SP X Γ a fa ka) (h2 : SP X Γ (.BoolOp .And (b :: rest) pos) fb .u) : SP X Γ (.BoolOp .And (a :: b :: rest) pos) (vA fa fb) .u := by
  obtain ⟨t, p, q⟩ := h.ex
  obtain ⟨t2, p2, q2⟩ := h2.ex
  refine ⟨_, pe_and p p2, fun σ H Q env fp Z d E hf hQ => ?_⟩
  obtain ⟨x, hx, hf⟩ := Option.bind_eq_some_iff.mp hf
  obtain ⟨y, hy, hf⟩ := Option.bind_eq_some_iff.mp hf
  rw [asB_ok hy] at hx
  refine q σ H _ env fp Z _ E hx fun v H1 s1 h1 => ?_
  cases h1.rep
  refine ⟨y, rfl, ?_⟩
  cases y with
  | true =>
    rw [if_pos rfl] at hf ⊢
    exact q2 σ H1 _ env fp Z d (E.same s1) hf fun w H2 s2 k2 => hQ w H2 (s1.trans s2) (k2.less s1)
  | false =>
    rw [if_neg Bool.false_ne_true] at hf ⊢
    cases hf
    exact hQ _ H1 s1 (Rep.bl _)
theorem s_or (h : SP X Γ a fa ka) (h2 : SP X Γ (.BoolOp .Or (b :: rest) pos) fb .u) : SP X Γ (.BoolOp .Or (a :: b :: rest) pos) (vO fa fb) .u := by
  obtain ⟨t, p, q⟩ := h.ex
  obtain ⟨t2, p2, q2⟩ := h2.ex
  refine ⟨_, pe_or p p2, fun σ H Q env fp Z d E hf hQ => ?_⟩
  obtain ⟨x, hx, hf⟩ := Option.bind_eq_some_iff.mp hf
  obtain ⟨y, hy, hf⟩ := Option.bind_eq_some_iff.mp hf
  rw [asB_ok hy] at hx
  refine q σ H _ env fp Z _ E hx fun v H1 s1 h1 => ?_
  cases h1.rep
  refine ⟨y, rfl, ?_⟩
  cases y with
  | true =>
    rw [if_pos rfl] at hf ⊢
    cases hf
    exact hQ _ H1 s1 (Rep.bl _)
  | false =>
    rw [if_neg Bool.false_ne_true] at hf ⊢
    exact q2 σ H1 _ env fp Z d (E.same s1) hf fun w H2 s2 k2 => hQ w H2 (s1.trans s2) (k2.less s1)
theorem s_not (h : SP X Γ a fa ka) : SP X Γ (.UnaryOp .Not a pos) (vN fa) .u := by
  obtain ⟨t, p, q⟩ := h.ex
  refine ⟨_, pe_not p, fun σ H Q env fp Z d E hf hQ => ?_⟩
  obtain ⟨x, hx, hf⟩ := Option.bind_eq_some_iff.mp hf
  obtain ⟨y, hy, hf⟩ := Option.map_eq_some_iff.mp hf
  rw [asB_ok hy] at hx
  subst hf
  refine q σ H _ env fp Z _ E hx fun v H1 s1 h1 => ?_
  cases h1.rep
  exact ⟨y, rfl, hQ _ H1 s1 (Rep.bl _)⟩
/-- a if t else b -/
def cI (t : En → Option Bool) (f h : En → Option D) : En → Option D := fun env => (t env).bind fun b => if b = true then f env else h env
theorem s_if {g : En → Option Bool} (hc : ST X Γ c g) (ha : SP X Γ a fa k) (hb : SP X Γ b fb k) : SP X Γ (.IfExp c a b pos) (cI g fa fb) k := by
  obtain ⟨t, p, q⟩ := hc.ex
  obtain ⟨ta, pa, qa⟩ := ha.ex
  obtain ⟨tb, pb, qb⟩ := hb.ex
  refine ⟨_, pe_ifExp p pa pb, fun σ H Q env fp Z d E hf hQ => ?_⟩
  obtain ⟨x, hx, hf⟩ := Option.bind_eq_some_iff.mp hf
  refine q σ H _ env fp Z _ E hx fun H1 s1 => ?_
  cases x with
  | true =>
    rw [if_pos rfl] at hf ⊢
    exact qa σ H1 _ env fp Z d (E.same s1) hf fun w H2 s2 k2 => hQ w H2 (s1.trans s2) (k2.less s1)
  | false =>
    rw [if_neg Bool.false_ne_true] at hf ⊢
    exact qb σ H1 _ env fp Z d (E.same s1) hf fun w H2 s2 k2 => hQ w H2 (s1.trans s2) (k2.less s1)
/-- a op b op' c -/
def ch (fa fb fc : En → Option D) (g g' : D → D → Option D) : En → Option D := fun env => (fa env).bind fun x => (fb env).bind fun y => (g x y).bind fun z => (asB z).bind fun k => if k = true then (fc env).bind fun w => g' y w else some (.bl false)
theorem s_chain {op op' : CmpOp} {r r' : R2} {g g' : D → D → Option D} (ho : OpR X (compareOp op) r) (ho' : OpR X (compareOp op') r') (hg : Fl2 X.K r g) (hg' : Fl2 X.K r' g') (ha : SP X Γ a fa ka) (hb : SP X Γ b fb kb) (hc : SP X Γ c fc kc) (hm : lastMarks [op, op'] [b, c] = false := by with_unfolding_all rfl) :
    SP X Γ (.Compare a [op, op'] [b, c] pos) (ch fa fb fc g g') .u := by
  obtain ⟨ta, pa, qa⟩ := ha.ex
  obtain ⟨tb, pb, qb⟩ := hb.ex
  obtain ⟨tc, pc, qc⟩ := hc.ex
  refine ⟨_, pe_chain ho ho' pa pb pc hm, fun σ H Q env fp Z d E hf hQ => ?_⟩
  obtain ⟨x, hx, hf⟩ := Option.bind_eq_some_iff.mp hf
  obtain ⟨y, hy, hf⟩ := Option.bind_eq_some_iff.mp hf
  obtain ⟨z, hz, hf⟩ := Option.bind_eq_some_iff.mp hf
  obtain ⟨kk, hk, hf⟩ := Option.bind_eq_some_iff.mp hf
  refine two qa qb E hx hy fun v w H' s h1 h2 => ?_
  rw [asB_ok hk] at hz
  obtain ⟨_, q⟩ := hg v w x y _ H' h1.rep h2.rep hz
  refine q _ ⟨kk, rfl, ?_⟩
  cases kk with
  | true =>
    rw [if_pos rfl] at hf ⊢
    obtain ⟨u, hu, hf⟩ := Option.bind_eq_some_iff.mp hf
    refine qc σ H' _ env fp Z u (E.same s) hu fun w' H2 s2 h3 => ?_
    obtain ⟨f1, q'⟩ := hg' w w' y u d H2 (h2.more s2).rep h3.rep hf
    exact q' Q (hQ _ _ (s.trans s2) (Rep.ofFlat f1))
  | false =>
    rw [if_neg Bool.false_ne_true] at hf ⊢
    cases hf
    exact hQ _ _ s (Rep.bl _)
theorem st_chain {op op' : CmpOp} {r r' : R2} {g g' : D → D → Option D} (ho : OpR X (compareOp op) r) (ho' : OpR X (compareOp op') r') (hg : Fl2 X.K r g) (hg' : Fl2 X.K r' g') (ha : SP X Γ a fa ka) (hb : SP X Γ b fb kb) (hc : SP X Γ c fc kc) (hm : lastMarks [op, op'] [b, c] = false := by with_unfolding_all rfl) :
    ST X Γ (.Compare a [op, op'] [b, c] pos) (tb (ch fa fb fc g g') asB) := by
  obtain ⟨ta, pa, qa⟩ := ha.ex
  obtain ⟨tb, pb, qb⟩ := hb.ex
  obtain ⟨tc, pc, qc⟩ := hc.ex
  refine ⟨_, pt_chain ho ho' pa pb pc hm, fun σ H Q env fp Z d E hf hQ => ?_⟩
  obtain ⟨x0, hx0, hf0⟩ := Option.bind_eq_some_iff.mp hf
  rw [asB_ok hf0] at hx0
  obtain ⟨x, hx, hf⟩ := Option.bind_eq_some_iff.mp hx0
  obtain ⟨y, hy, hf⟩ := Option.bind_eq_some_iff.mp hf
  obtain ⟨z, hz, hf⟩ := Option.bind_eq_some_iff.mp hf
  obtain ⟨kk, hk, hf⟩ := Option.bind_eq_some_iff.mp hf
  refine two qa qb E hx hy fun v w H' s h1 h2 => ?_
  rw [asB_ok hk] at hz
  obtain ⟨_, q⟩ := hg v w x y _ H' h1.rep h2.rep hz
  refine q _ ⟨kk, rfl, ?_⟩
  cases kk with
  | true =>
    rw [if_pos rfl] at hf ⊢
    obtain ⟨u, hu, hf⟩ := Option.bind_eq_some_iff.mp hf
    refine qc σ H' _ env fp Z u (E.same s) hu fun w' H2 s2 h3 => ?_
    obtain ⟨f1, q'⟩ := hg' w w' y u _ H2 (h2.more s2).rep h3.rep hf
    exact q' _ ⟨_, rfl, hQ _ (s.trans s2)⟩
  | false =>
    rw [if_neg Bool.false_ne_true] at hf ⊢
    cases hf
    exact ⟨_, rfl, hQ _ s⟩
/-! ### built-ins called by their names -/
/-- a call on readable data that gives something flat -/
def Fl1 (K : PySem.W.Frag) (r : List V → Hp → VK → Prop) (g : List D → Option D) : Prop := ∀ (xs : List V) (ds : List D) (d : D) (H : Hp), Reps K H xs ds → g ds = some d → d.flat = true ∧ ∀ Q : VK, Q d.v H → r xs H Q
theorem s_call {x : Str} {id : String} {r : List V → Hp → VK → Prop} {g : List D → Option D} (hc : CallR X (.builtin id) r) (hg : Fl1 X.K r g) (hm : X.mg x = none) (ha : SAs X Γ (e :: es) fs ks) (hgl : Gl X x := by rfl) (hv : bootBuiltins x = some (.builtin id) := by decide +kernel) (hn : x ≠ "__name__" := by decide) (hdb : (x == ("__debug__" : Str)) = false := by decide)
    (he : starEach (e :: es) X.env = (false, eval e X.env) :: starEach es X.env := by rfl) (hpl : (backTo pos (starEach es X.env)).any (·.1) = false := by rfl) : SP X Γ (.Call (.Name x p2) (e :: es) [] pos) (bA fs g) .u := by
  obtain ⟨t, p, q⟩ := ha.ex
  refine ⟨_, pe_callB hc hgl hm hv p hn hdb he hpl, fun σ H Q env fp Z d E hf hQ => ?_⟩
  obtain ⟨xs, hx, hd⟩ := Option.bind_eq_some_iff.mp hf
  refine q σ H _ env fp Z xs E hx fun vs H1 s1 h1 => ?_
  obtain ⟨f1, q1⟩ := hg vs xs d H1 h1.reps hd
  exact q1 Q (hQ _ _ s1 (Rep.ofFlat f1))
theorem s_callT {x : Str} {T : String} {r : List V → Hp → VK → Prop} {g : List D → Option D} (hc : CallR X (.type T) r) (hg : Fl1 X.K r g) (hm : X.mg x = none) (ha : SAs X Γ (e :: es) fs ks) (hgl : Gl X x := by rfl) (hv : bootBuiltins x = some (.type T) := by decide +kernel) (hn : x ≠ "__name__" := by decide) (hdb : (x == ("__debug__" : Str)) = false := by decide)
    (he : starEach (e :: es) X.env = (false, eval e X.env) :: starEach es X.env := by rfl) (hpl : (backTo pos (starEach es X.env)).any (·.1) = false := by rfl) : SP X Γ (.Call (.Name x p2) (e :: es) [] pos) (bA fs g) .u := by
  obtain ⟨t, p, q⟩ := ha.ex
  refine ⟨_, pe_callTy hc hgl hm hv p hn hdb he hpl, fun σ H Q env fp Z d E hf hQ => ?_⟩
  obtain ⟨xs, hx, hd⟩ := Option.bind_eq_some_iff.mp hf
  refine q σ H _ env fp Z xs E hx fun vs H1 s1 h1 => ?_
  obtain ⟨f1, q1⟩ := hg vs xs d H1 h1.reps hd
  exact q1 Q (hQ _ _ s1 (Rep.ofFlat f1))
def lenD : List D → Option D
  | [.lst xs] => some (.int xs.length)
  | [.tup xs] => some (.int xs.length)
  | [.str x] => if x.length ≤ sizeLine then some (.int x.length) else none
  | _ => none
theorem fl_len : Fl1 X.K (fun xs H Q => ∃ x n, xs = [x] ∧ LenV X.K x H n ∧ Q (.int n) H) lenD := fun xs ds d H h hd => by
  cases h with
  | nil => cases hd
  | cons h r =>
    cases r with
    | cons _ _ => cases h <;> cases hd
    | nil =>
      cases h with
      | lst q r => cases hd; exact ⟨rfl, fun Q z => ⟨_, _, rfl, .inl ⟨_, q, rfl⟩, by rw [r.length]; exact z⟩⟩
      | tup q r => cases hd; exact ⟨rfl, fun Q z => ⟨_, _, rfl, .inr ⟨_, q, rfl⟩, by rw [r.length]; exact z⟩⟩
      | str x =>
        simp only [lenD] at hd
        split at hd
        · rename_i hl; cases hd; exact ⟨rfl, fun Q z => ⟨_, _, rfl, ⟨hl, rfl⟩, z⟩⟩
        · cases hd
      | _ => cases hd
def maxD : List D → Option D
  | [.int i, .int j] => some (.int (if j > i then j else i))
  | _ => none
def minD : List D → Option D
  | [.int i, .int j] => some (.int (if j < i then j else i))
  | _ => none
theorem reps2 {K : PySem.W.Frag} {G : Hp} {xs : List V} {a b : D} (h : Reps K G xs [a, b]) : ∃ x y, xs = [x, y] ∧ Rep K G x a ∧ Rep K G y b := by
  cases h with
  | cons h r =>
    cases r with
    | cons h2 r => cases r; exact ⟨_, _, rfl, h, h2⟩
theorem reps1 {K : PySem.W.Frag} {G : Hp} {xs : List V} {a : D} (h : Reps K G xs [a]) : ∃ x, xs = [x] ∧ Rep K G x a := by
  cases h with
  | cons h r => cases r; exact ⟨_, rfl, h⟩
theorem maxD_ok {ds : List D} {d : D} (h : maxD ds = some d) : ∃ i j, ds = [.int i, .int j] ∧ d = .int (if j > i then j else i) := by
  unfold maxD at h
  split at h
  · cases h; exact ⟨_, _, rfl, rfl⟩
  · cases h
theorem minD_ok {ds : List D} {d : D} (h : minD ds = some d) : ∃ i j, ds = [.int i, .int j] ∧ d = .int (if j < i then j else i) := by
  unfold minD at h
  split at h
  · cases h; exact ⟨_, _, rfl, rfl⟩
  · cases h
theorem fl_max : Fl1 X.K (fun xs H Q => ∃ i j, xs = [.int i, .int j] ∧ Q (.int (if j > i then j else i)) H) maxD := fun xs ds d H h hd => by
  obtain ⟨i, j, rfl, rfl⟩ := maxD_ok hd
  obtain ⟨x, y, rfl, h1, h2⟩ := reps2 h
  cases h1
  cases h2
  exact ⟨rfl, fun Q z => ⟨_, _, rfl, z⟩⟩
theorem fl_min : Fl1 X.K (fun xs H Q => ∃ i j, xs = [.int i, .int j] ∧ Q (.int (if j < i then j else i)) H) minD := fun xs ds d H h hd => by
  obtain ⟨i, j, rfl, rfl⟩ := minD_ok hd
  obtain ⟨x, y, rfl, h1, h2⟩ := reps2 h
  cases h1
  cases h2
  exact ⟨rfl, fun Q z => ⟨_, _, rfl, z⟩⟩
def intD : List D → Option D
  | [.int i] => some (.int i)
  | [.bl b] => some (.int (if b then 1 else 0))
  | _ => none
theorem intD_ok {ds : List D} {d : D} (h : intD ds = some d) : (∃ i, ds = [.int i] ∧ d = .int i) ∨ ∃ b, ds = [.bl b] ∧ d = .int (if b then 1 else 0) := by
  unfold intD at h
  split at h
  · cases h; exact .inl ⟨_, rfl, rfl⟩
  · cases h; exact .inr ⟨_, rfl, rfl⟩
  · cases h
theorem fl_int1 : Fl1 X.K (fun xs H Q => (∃ i, xs = [.int i] ∧ Q (.int i) H) ∨ ∃ k, xs = [.bl k] ∧ Q (.int (if k then 1 else 0)) H) intD := fun xs ds d H h hd => by
  rcases intD_ok hd with ⟨i, rfl, rfl⟩ | ⟨b, rfl, rfl⟩
  · obtain ⟨x, rfl, h1⟩ := reps1 h
    cases h1
    exact ⟨rfl, fun Q z => .inl ⟨_, rfl, z⟩⟩
  · obtain ⟨x, rfl, h1⟩ := reps1 h
    cases h1
    exact ⟨rfl, fun Q z => .inr ⟨_, rfl, z⟩⟩
def absD : List D → Option D
  | [.int i] => some (.int (if i < 0 then -i else i))
  | _ => none
theorem fl_abs : Fl1 X.K (fun xs H Q => ∃ i, xs = [.int i] ∧ Q (.int (if i < 0 then -i else i)) H) absD := fun xs ds d H h hd => by
  unfold absD at hd
  split at hd
  · cases hd
    obtain ⟨x, rfl, h1⟩ := reps1 h
    cases h1
    exact ⟨rfl, fun Q z => ⟨_, rfl, z⟩⟩
  · cases hd
/-! list(x), tuple(x) -/
def liD : List D → Option D
  | [.lst xs] => some (.lst xs)
  | [.tup xs] => some (.lst xs)
  | _ => none
theorem s_list (hm : X.mg "list" = none) (ha : SP X Γ e f k) (hgl : Gl X "list" := by rfl) (he : starEach [e] X.env = (false, eval e X.env) :: starEach [] X.env := by rfl) : SP X Γ (.Call (.Name "list" p2) [e] [] pos) (bA (Py.a1 f a0) liD) (Kd.nl k.clean) := by
  obtain ⟨t, p, q⟩ := ha.ex
  refine ⟨_, pe_callTy call_list_of hgl hm (by decide +kernel) (pa_cons p pa_nil he) (by decide) (by decide) he (by rfl), fun σ H Q env fp Z d E hf hQ => ?_⟩
  obtain ⟨xs, hx, hd⟩ := Option.bind_eq_some_iff.mp hf
  obtain ⟨y, hy, hx⟩ := Option.bind_eq_some_iff.mp hx
  cases hx
  refine q σ H _ env fp Z y E hy fun v H1 s1 h1 => ?_
  cases y with
  | lst xs =>
    cases hd
    obtain ⟨p1, us, rfl, l1, r1⟩ := h1.lst
    exact ⟨_, _, rfl, .inl l1, fun p hp => hQ _ _ (s1.trans (Sub.upd hp)) (new_list E s1 hp r1)⟩
  | tup xs =>
    cases hd
    obtain ⟨p1, us, rfl, l1, r1⟩ := h1.tup
    exact ⟨_, _, rfl, .inr l1, fun p hp => hQ _ _ (s1.trans (Sub.upd hp)) (new_list E s1 hp r1)⟩
  | _ => cases hd
def tuD : List D → Option D
  | [.lst xs] => some (.tup xs)
  | [.tup xs] => some (.tup xs)
  | _ => none
theorem s_tuple (hm : X.mg "tuple" = none) (ha : SP X Γ e f k) (hgl : Gl X "tuple" := by rfl) (he : starEach [e] X.env = (false, eval e X.env) :: starEach [] X.env := by rfl) : SP X Γ (.Call (.Name "tuple" p2) [e] [] pos) (bA (Py.a1 f a0) tuD) (Kd.nt k.clean) := by
  obtain ⟨t, p, q⟩ := ha.ex
  refine ⟨_, pe_callTy call_tuple_of hgl hm (by decide +kernel) (pa_cons p pa_nil he) (by decide) (by decide) he (by rfl), fun σ H Q env fp Z d E hf hQ => ?_⟩
  obtain ⟨xs, hx, hd⟩ := Option.bind_eq_some_iff.mp hf
  obtain ⟨y, hy, hx⟩ := Option.bind_eq_some_iff.mp hx
  cases hx
  refine q σ H _ env fp Z y E hy fun v H1 s1 h1 => ?_
  cases y with
  | lst xs =>
    cases hd
    obtain ⟨p1, us, rfl, l1, r1⟩ := h1.lst
    exact ⟨_, _, rfl, .inl ⟨l1, fun p hp => hQ _ _ (s1.trans (Sub.upd hp)) (new_tup E s1 hp r1)⟩⟩
  | tup xs =>
    cases hd
    obtain ⟨p1, us, rfl, l1, r1⟩ := id h1.tup
    exact ⟨_, _, rfl, .inr ⟨l1, hQ _ _ s1 h1.pass⟩⟩
  | _ => cases hd
/-! isinstance(x, T) -/
def D.ty : D → String
  | .non => "NoneType"
  | .bl _ => "bool"
  | .int _ => "int"
  | .str _ => "str"
  | .tup _ => "tuple"
  | .lst _ => "list"
  | _ => "dict"
def D.isIns : D → Bool
  | .ins _ _ _ => true
  | .obj _ _ _ => true
  | _ => false
theorem Rep.tyX {K : PySem.W.Frag} {H : Hp} {v : V} {d : D} (h : Rep K H v d) (hi : d.isIns = false) : TyX K H v (.type d.ty) := by
  cases h with
  | non => exact .base .non
  | bl b => exact .base (.bl b)
  | int i => exact .base (.int i)
  | str x => exact .base (.str x)
  | tup q r =>
    rcases q with (q | ⟨o, q⟩) | ⟨o, its, n, q, c, _⟩
    · exact .base (.tup q)
    · exact .fTuple q
    · exact .kTuple q c
  | lst q r =>
    rcases q with (q | ⟨o, q⟩) | ⟨o, its, n, q, c, _⟩
    · exact .base (.lst q)
    · exact .base (.frz q)
    · exact .kList q c
  | dic q _ _ => exact .base (.dK q)
  | exc _ _ => cases hi
  | exn => cases hi
  | obj _ _ _ => cases hi
def isD (T : String) (d : D) : Option D := if d.isIns = true then none else (kitB d.ty T).map .bl
theorem s_isi {x : Str} {T : String} (hm : X.mg "isinstance" = none) (hmT : X.mg x = none) (ha : SP X Γ e f k) (hvT : bootBuiltins x = some (.type T) := by decide +kernel) (hgT : Gl X x := by rfl) (hgl : Gl X "isinstance" := by rfl) (hnT : x ≠ "__name__" := by decide) (hdT : (x == ("__debug__" : Str)) = false := by decide)
    (he : starEach [e, .Name x p3] X.env = (false, eval e X.env) :: starEach [.Name x p3] X.env := by rfl) : SP X Γ (.Call (.Name "isinstance" p2) [e, .Name x p3] [] pos) (b1 f (isD T)) .u := by
  obtain ⟨t, p, q⟩ := ha.ex
  refine ⟨_, pe_callB call_isi hgl hm (by decide +kernel) (pa_cons p (pa_cons (pe_bltn (v := .ty T) hgT hmT hvT rfl hnT hdT) pa_nil (by rfl)) he) (by decide) (by decide) he (by rfl), fun σ H Q env fp Z d E hf hQ => ?_⟩
  obtain ⟨y, hy, hd⟩ := bind1 hf
  unfold isD at hd
  split at hd
  · cases hd
  rename_i hi
  obtain ⟨b, hb, e⟩ := Option.map_eq_some_iff.mp hd
  subst e
  exact q σ H _ env fp Z y E hy fun v H1 s1 h1 => ⟨_, _, _, _, _, rfl, .ty T, h1.rep.tyX (by simpa using hi), kit_ty hb, hQ _ _ s1 (Rep.bl _)⟩
end
end Py

set_option Elab.async false
set_option linter.all false
set_option maxRecDepth 100000
set_option maxHeartbeats 4000000
/-! Own layer: own data changed, effects, calls of own defs. -/
namespace Py
open PySem PySem.Spec PyProof.Rows L2

/-! ### an own slot is changed -/
theorem Ext.frame {H H' : Hp} {f f' rest : List Addr} (e : Ext H f H' f') (n : ∀ b ∈ rest, b ∉ f) (h : ∀ b ∈ rest, ∃ o, H b = some o) : ∀ b ∈ f', b ∉ rest := fun b hb hr => by
  rcases e.own b hb with q | q
  · exact n b hr q
  · obtain ⟨o, h⟩ := h b hr
    rw [q] at h; cases h
theorem EOk.own {K : PySem.W.Frag} {Γ : List Sh} {env : En} {σ : L2.St} {H : Hp} {fp Z : List Addr} (E : EOk K Γ env σ H fp Z) {i : Nat} {s : Sh} {d : D} (hs : Γ[i]? = some s) (hd : env[i]? = some (some d)) :
    ∃ v f2 rest, σ[i]? = some (some v) ∧ Tr K H (hid (fp ++ Z) H) s v d f2 ∧ f2.Nodup ∧ (∀ b ∈ f2, b ∈ fp) ∧ (∀ b ∈ rest, b ∈ fp ∧ b ∉ f2) ∧ (∀ b ∈ fp, b ∈ f2 ∨ b ∈ rest) ∧
      ∀ (H' : Hp) (fc Y : List Addr) (d' : D), (∀ b ∈ Y, (H b = none ∨ b ∈ f2) ∧ b ∉ fc ∧ ∃ o, H' b = some o ∧ NT o) → Ext H f2 H' fc → (∃ fn, Tr K H' (hid (fc ++ (rest ++ (Y ++ Z))) H') s v d' fn ∧ fn.Nodup ∧ ∀ b ∈ fn, b ∈ fc) → (∀ b ∈ fc, ∃ o, H' b = some o ∧ NT o) →
        EOk K Γ (env.set i (some d')) σ H' (fc ++ rest) (Y ++ Z) ∧ Ext H fp H' (fc ++ rest) := by
  obtain ⟨fq, t, nq, iq⟩ := E.ex
  obtain ⟨f1, f2, f3, rfl, a, b⟩ := t.put hs
  obtain ⟨v, hv, tv⟩ := a d hd
  obtain ⟨n1, n23, d12⟩ := List.nodup_append.mp nq
  obtain ⟨n2, n3, d23⟩ := List.nodup_append.mp n23
  have in2 : ∀ b ∈ f2, b ∈ fp := fun b hb => iq b (List.mem_append_right _ (List.mem_append_left _ hb))
  have out1 : ∀ b ∈ f1, b ∉ f2 := fun b hb z => d12 b hb b (List.mem_append_left _ z) rfl
  have out3 : ∀ b ∈ f3, b ∉ f2 := fun b hb z => d23 b z b hb rfl
  refine ⟨v, f2, fp.filter fun b => decide (b ∉ f2), hv, tv, n2, in2, fun b hb => ⟨(List.mem_filter.mp hb).1, of_decide_eq_true (List.mem_filter.mp hb).2⟩, fun b hb => ?_, fun H' fc Y d' hY e ⟨fn, tn, nn, inn⟩ ok => ?_⟩
  · by_cases z : b ∈ f2
    · exact .inl z
    · exact .inr (List.mem_filter.mpr ⟨hb, decide_eq_true z⟩)
  have hrest : ∀ b ∈ fp.filter (fun b => decide (b ∉ f2)), b ∈ fp ∧ b ∉ f2 := fun b hb => ⟨(List.mem_filter.mp hb).1, of_decide_eq_true (List.mem_filter.mp hb).2⟩
  have ext : Ext H fp H' (fc ++ fp.filter fun b => decide (b ∉ f2)) := by
    refine ⟨fun b o h n => e.keep b o h fun z => n (in2 b z), fun b hb => ?_, fun b hb n => ?_⟩
    · rcases List.mem_append.mp hb with z | z
      · exact (e.own b z).imp_left (in2 b)
      · exact .inl (hrest b z).1
    · by_cases z : b ∈ f2
      · exact e.there b z n
      · cases q : H b with
        | none => exact absurd q n
        | some o => rw [e.keep b o q z]; simp
  have sG : Sub (hid (fp ++ Z) H) (hid ((fc ++ fp.filter fun b => decide (b ∉ f2)) ++ (Y ++ Z)) H') := fun b o h => by
    have h' := ext.hid (Z := Z) b o h
    obtain ⟨h1, h2⟩ := hid_some h
    obtain ⟨h3, h4⟩ := hid_some h'
    rw [hid_of]
    · exact h4
    · intro z
      rcases List.mem_append.mp z with z | z
      · exact h3 (List.mem_append_left _ z)
      · rcases List.mem_append.mp z with z | z
        · rcases (hY b z).1 with q | q
          · rw [q] at h2; cases h2
          · exact h1 (List.mem_append_left _ (in2 b q))
        · exact h3 (List.mem_append_right _ z)
  have there : ∀ b ∈ fp ++ Z, ∃ o, H b = some o := fun b hb => let ⟨o, h, _⟩ := E.ok b hb; ⟨o, h⟩
  have keep13 : ∀ b ∈ f1 ++ f3, ∀ o, H b = some o → H' b = some o := fun b hb o h => e.keep b o h ((List.mem_append.mp hb).elim (out1 b) (out3 b))
  obtain ⟨_, _, b3⟩ := b H' (hid ((fc ++ fp.filter fun b => decide (b ∉ f2)) ++ (Y ++ Z)) H') sG keep13
  have tn' : Tr K H' (hid ((fc ++ fp.filter fun b => decide (b ∉ f2)) ++ (Y ++ Z)) H') s v d' fn := by rw [List.append_assoc]; exact tn
  have old : ∀ b ∈ f1 ++ f3, b ∉ fn := fun b hb z => by
    rcases e.own b (inn b z) with q | q
    · exact ((List.mem_append.mp hb).elim (out1 b) (out3 b)) q
    · have : b ∈ fp := iq b ((List.mem_append.mp hb).elim (fun w => List.mem_append_left _ w) fun w => List.mem_append_right _ (List.mem_append_right _ w))
      obtain ⟨o, h⟩ := there b (List.mem_append_left _ this)
      rw [q] at h; cases h
  refine ⟨⟨⟨f1 ++ (fn ++ f3), (b3 v d' fn tn').2 hv, ?_, fun b hb => ?_⟩, fun b hb w => ?_, fun b hb => ?_⟩, ext⟩
  · refine List.nodup_append.mpr ⟨n1, List.nodup_append.mpr ⟨nn, n3, fun x hx y hy q => ?_⟩, fun x hx y hy q => ?_⟩
    · subst q; exact old x (List.mem_append_right _ hy) hx
    · subst q
      rcases List.mem_append.mp hy with z | z
      · exact old x (List.mem_append_left _ hx) z
      · exact d12 x hx x (List.mem_append_right _ z) rfl
  · rcases List.mem_append.mp hb with z | z
    · exact List.mem_append_right _ (List.mem_filter.mpr ⟨iq b (List.mem_append_left _ z), decide_eq_true (out1 b z)⟩)
    · rcases List.mem_append.mp z with z | z
      · exact List.mem_append_left _ (inn b z)
      · exact List.mem_append_right _ (List.mem_filter.mpr ⟨iq b (List.mem_append_right _ (List.mem_append_right _ z)), decide_eq_true (out3 b z)⟩)
  · rcases List.mem_append.mp w with w | w
    · rcases List.mem_append.mp hb with z | z
      · exact (hY b w).2.1 z
      · obtain ⟨o, h⟩ := there b (List.mem_append_left _ (hrest b z).1)
        rcases (hY b w).1 with q | q
        · rw [q] at h; cases h
        · exact (hrest b z).2 q
    · rcases List.mem_append.mp hb with z | z
      · rcases e.own b z with q | q
        · exact E.dj b (in2 b q) w
        · obtain ⟨o, h⟩ := there b (List.mem_append_right _ w)
          rw [q] at h; cases h
      · exact E.dj b (hrest b z).1 w
  · rcases List.mem_append.mp hb with z | z
    · rcases List.mem_append.mp z with z | z
      · exact ok b z
      · obtain ⟨o, h, p⟩ := E.ok b (List.mem_append_left _ (hrest b z).1)
        exact ⟨o, e.keep b o h (hrest b z).2, p⟩
    · rcases List.mem_append.mp z with z | z
      · exact (hY b z).2.2
      · obtain ⟨o, h, p⟩ := E.ok b (List.mem_append_right _ z)
        exact ⟨o, e.keep b o h fun w => E.dj b (in2 b w) z, p⟩
/-- hidden things may be let stand -/
theorem EOk.un {K : PySem.W.Frag} {Γ : List Sh} {env : En} {σ : L2.St} {H : Hp} {fp Y Z : List Addr} (E : EOk K Γ env σ H fp (Y ++ Z)) : EOk K Γ env σ H fp Z := by
  obtain ⟨⟨fq, t, n, i⟩, dj, ok⟩ := E
  refine ⟨⟨fq, t.mono (hid_less fun b hb => ?_) fun _ _ _ h => h, n, i⟩, fun b hb z => dj b hb (List.mem_append_right _ z), fun b hb => ok b ?_⟩
  · exact (List.mem_append.mp hb).elim (fun w => List.mem_append_left _ w) fun w => List.mem_append_right _ (List.mem_append_right _ w)
  · exact (List.mem_append.mp hb).elim (fun w => List.mem_append_left _ w) fun w => List.mem_append_right _ (List.mem_append_right _ w)
/-- new things may be hidden -/
theorem EOk.hide {K : PySem.W.Frag} {Γ : List Sh} {env : En} {σ : L2.St} {H H' : Hp} {fp Y Z : List Addr} (E : EOk K Γ env σ H fp Z) (s : Sub H H') (hY : ∀ b ∈ Y, H b = none ∧ ∃ o, H' b = some o ∧ NT o) : EOk K Γ env σ H' fp (Y ++ Z) := by
  have E' := E.same s
  obtain ⟨⟨fq, t, n, i⟩, dj, ok⟩ := E
  refine ⟨⟨fq, t.mono (fun b o h => ?_) fun b _ o e => s b o e, n, i⟩, fun b hb z => ?_, fun b hb => ?_⟩
  · obtain ⟨h1, h2⟩ := hid_some h
    rw [hid_of]
    · exact s b o h2
    · intro z
      rcases List.mem_append.mp z with z | z
      · exact h1 (List.mem_append_left _ z)
      · rcases List.mem_append.mp z with z | z
        · rw [(hY b z).1] at h2; cases h2
        · exact h1 (List.mem_append_right _ z)
  · rcases List.mem_append.mp z with z | z
    · obtain ⟨o, h, _⟩ := ok b (List.mem_append_left _ hb)
      rw [(hY b z).1] at h; cases h
    · exact dj b hb z
  · rcases List.mem_append.mp hb with z | z
    · exact E'.ok b (List.mem_append_left _ z)
    · rcases List.mem_append.mp z with z | z
      · exact (hY b z).2
      · exact E'.ok b (List.mem_append_right _ z)

/-! ### kinds along changes -/
theorem HK.ext {K : PySem.W.Frag} {k : Kd} {H0 H1 H2 : Hp} {f1 f2 Z : List Addr} {v : V} {d : D} (h : HK K k H0 f1 Z H1 v d) (e : Ext H1 f1 H2 f2) (c : k.cu = true) (hz : ∀ b ∈ Z, b ∉ f1) : HK K k H0 f2 Z H2 v d := by
  cases k with
  | u => exact Rep.mono e.hid h
  | t => cases c
  | vw s =>
    cases s with
    | fz =>
      obtain ⟨fv, a, n, t⟩ := h
      cases t with
      | fz t => exact ⟨[], fun _ z => (nomatch z), List.nodup_nil, .fz (Rep.mono e.hid t)⟩
    | _ => cases c
  | nw s =>
    obtain ⟨fn, a, n, t⟩ := h
    have out : ∀ b ∈ fn, b ∉ f2 ++ Z := fun b hb z => by
      have hb' := (a b hb).2
      rcases List.mem_append.mp z with z | z
      · rcases e.own b z with q | q
        · exact hb' (List.mem_append_left _ q)
        · obtain ⟨o, h, _⟩ := t.there b hb
          rw [q] at h; cases h
      · exact hb' (List.mem_append_right _ z)
    refine ⟨fn, fun b hb => ⟨(a b hb).1, out b hb⟩, n, t.mono ?_ fun b hb o h => e.keep b o h fun z => (a b hb).2 (List.mem_append_left _ z)⟩
    intro b o h
    obtain ⟨h1, h2⟩ := hid_some h
    have nf : b ∉ f1 := fun z => h1 (List.mem_append_right _ (List.mem_append_left _ z))
    rw [hid_of]
    · exact e.keep b o h2 nf
    · intro z
      rcases List.mem_append.mp z with z | z
      · exact h1 (List.mem_append_left _ z)
      · rcases List.mem_append.mp z with z | z
        · rcases e.own b z with q | q
          · exact nf q
          · rw [h2] at q; cases q
        · exact h1 (List.mem_append_right _ (List.mem_append_right _ z))
theorem HK.back {K : PySem.W.Frag} {k : Kd} {H0 H1 H2 : Hp} {f0 f1 f2 Z : List Addr} {v : V} {d : D} (h : HK K k H1 f2 Z H2 v d) (e : Ext H0 f0 H1 f1) : HK K k H0 f2 Z H2 v d := by
  cases k with
  | nw s =>
    obtain ⟨fn, a, n, t⟩ := h
    exact ⟨fn, fun b hb => ⟨e.back (a b hb).1, (a b hb).2⟩, n, t⟩
  | _ => exact h

/-- a value; a tree of its own with the environment beside it (f0: owned at first) -/
def HKE (K : PySem.W.Frag) (Γ : List Sh) (env : En) (σ : L2.St) (k : Kd) (H : Hp) (f0 fp Z : List Addr) (H' : Hp) (v : V) (d : D) : Prop := match k with
  | .nw s => ∃ fn, (∀ b ∈ fn, (b ∈ f0 ∨ H b = none) ∧ b ∉ fp ++ Z) ∧ fn.Nodup ∧ Tr K H' (hid (fn ++ (fp ++ Z)) H') s v d fn ∧ EOk K Γ env σ H' fp (fn ++ Z)
  | k => HK K k H fp Z H' v d
def Kd.w : Kd → Kd
  | .nw _ => .u
  | k => k
theorem HKE.hk {K : PySem.W.Frag} {Γ : List Sh} {env : En} {σ : L2.St} {k : Kd} {H H' : Hp} {f0 fp Z : List Addr} {v : V} {d : D} (h : HKE K Γ env σ k H f0 fp Z H' v d) : HK K k.w H fp Z H' v d := by
  cases k with
  | nw s =>
    obtain ⟨fn, a, n, t, _⟩ := h
    have t' : Tr K (hid (fp ++ Z) H') (hid (fn ++ (fp ++ Z)) H') s v d fn := t.mono Sub.refl fun b hb o e => by
      rw [hid_of (a b hb).2]; exact e
    exact t'.rep (hid_less fun b hb => List.mem_append_right _ hb)
  | _ => exact h
theorem Kd.w_cu {k : Kd} (h : k.cu = true) : k.w.cu = true := by
  cases k with
  | nw s => rfl
  | _ => exact h
theorem HKE.toU {K : PySem.W.Frag} {Γ : List Sh} {env : En} {σ : L2.St} {k : Kd} {H H' : Hp} {f0 fp Z : List Addr} {v : V} {d : D} (h : HKE K Γ env σ k H f0 fp Z H' v d) (c : k.cu = true) : Rep K (hid (fp ++ Z) H') v d := h.hk.toU (Kd.w_cu c)
theorem HKE.back {K : PySem.W.Frag} {Γ : List Sh} {env : En} {σ : L2.St} {k : Kd} {H0 H1 H2 : Hp} {f0 f1 f2 Z : List Addr} {v : V} {d : D} (h : HKE K Γ env σ k H1 f1 f2 Z H2 v d) (e : Ext H0 f0 H1 f1) : HKE K Γ env σ k H0 f0 f2 Z H2 v d := by
  cases k with
  | nw s => obtain ⟨fn, a, b, c, E⟩ := h; exact ⟨fn, fun x hx => ⟨(a x hx).1.elim (fun z => e.own x z) fun z => .inr (e.back z), (a x hx).2⟩, b, c, E⟩
  | _ => exact h
/-- a value made without changing what is owned -/
theorem HK.toE {K : PySem.W.Frag} {Γ : List Sh} {env : En} {σ : L2.St} {k : Kd} {H H' : Hp} {f0 fp Z : List Addr} {v : V} {d : D} (h : HK K k H fp Z H' v d) (E : EOk K Γ env σ H fp Z) (s : Sub H H') : HKE K Γ env σ k H f0 fp Z H' v d := by
  cases k with
  | nw _ =>
    obtain ⟨fn, a, b, c⟩ := h
    exact ⟨fn, fun x hx => ⟨.inr (a x hx).1, (a x hx).2⟩, b, c, E.hide s fun x hx => ⟨(a x hx).1, c.there x hx⟩⟩
  | _ => exact h

/-! ### outcomes -/
inductive Rs where
  | ok (d : D) | ex (c : Nat) (d : D)
  deriving Inhabited
/-- an error of the class c, with d in its field -/
def XOk (K : PySem.W.Frag) (xc : Nat → Addr) (fp Z : List Addr) (c : Nat) (d : D) (cls : Value) (od : Option Addr) (H : Hp) : Prop :=
  cls = .ref (xc c) ∧ ((d = .non ∧ od = none) ∨ ∃ dx v, od = some dx ∧ hid (fp ++ Z) H dx = some (.xd [("at", v)]) ∧ Rep K (hid (fp ++ Z) H) v d)
abbrev IE := En → Option (Rs × En)
def SmE (K : PySem.W.Frag) (xc : Nat → Addr) (W : WX) (Γ : List Sh) (f : IE) (k : Kd) (t : TE) : Prop :=
  ∀ (σ : L2.St) (H : Hp) (Q : VK) (env : En) (fp Z : List Addr) (r : Rs) (env' : En), EOk K Γ env σ H fp Z → f env = some (r, env') →
    (∀ H' fp', EOk K Γ env' σ H' fp' Z → Ext H fp H' fp' → match r with
      | .ok d => ∀ v, HKE K Γ env' σ k H fp fp' Z H' v d → Q v H'
      | .ex c d => ∀ cls od, XOk K xc fp' Z c d cls od H' → W cls od σ H') → t σ H Q
structure SI (X : Cx) (xc : Nat → Addr) (W : WX) (Γ : List Sh) (e : Expr) (f : IE) (k : Kd) : Prop where
  ex : ∃ t, PE X e t ∧ SmE X.K xc W Γ f k t
def p2i (f : En → Option D) : IE := fun env => (f env).map fun d => (.ok d, env)
def iB (m : IE) (g : D → IE) : IE := fun env => match m env with
  | some (.ok d, e) => g d e
  | some (.ex c d, e) => some (.ex c d, e)
  | none => none
def iM (m : IE) (g : D → Option D) : IE := iB m fun d env => (g d).map fun x => (.ok x, env)
theorem iB_ok {m : IE} {g : D → IE} {env e' : En} {r : Rs} (h : iB m g env = some (r, e')) : (∃ d e1, m env = some (.ok d, e1) ∧ g d e1 = some (r, e')) ∨ ∃ c d, m env = some (.ex c d, e') ∧ r = .ex c d := by
  unfold iB at h
  split at h
  · rename_i d e q; exact .inl ⟨d, e, q, h⟩
  · rename_i c d e q; cases h; exact .inr ⟨c, d, q, rfl⟩
  · cases h
section
variable {X : Cx} {xc : Nat → Addr} {W : WX} {Γ : List Sh} {a b c e i : Expr} {es : List Expr} {fa fb f : En → Option D} {ga gb g : IE} {fs : En → Option (List D)} {ka kb kc k : Kd} {ks : List Kd} {pos p2 : Pos}
theorem si_p (h : SP X Γ e f k) : SI X xc W Γ e (p2i f) k := by
  obtain ⟨t, p, q⟩ := h.ex
  refine ⟨t, p, fun σ H Q env fp Z r env' E hf hQ => ?_⟩
  obtain ⟨d, hd, z⟩ := Option.map_eq_some_iff.mp hf
  cases z
  exact q σ H Q env fp Z d E hd fun v H' s hk => hQ H' fp (E.same s) (Ext.same s) v (hk.toE E s)
theorem SI.u (h : SI X xc W Γ e g k) (c : k.cu = true) : SI X xc W Γ e g .u := by
  obtain ⟨t, p, q⟩ := h.ex
  refine ⟨t, p, fun σ H Q env fp Z r env' E hf hQ => q σ H Q env fp Z r env' E hf fun H' fp' E' x => ?_⟩
  have := hQ H' fp' E' x
  cases r with
  | ok d => exact fun v hk => this v (hk.toU c)
  | ex c d => exact this
/-- two operands, the second one may change what is owned -/
theorem iTwo {ta tb : TE} (ha : SmE X.K xc W Γ ga ka ta) (hb : SmE X.K xc W Γ gb kb tb) (ca : ka.cu = true) {m : D → D → Option D} {k : Kd} {R : V → V → Hp → VK → Prop}
    (h : ∀ (x y d : D) (v w : V) (H H' : Hp) (f0 fp Z : List Addr) (Q : VK) (env : En) (σ : L2.St), m x y = some d → EOk X.K Γ env σ H' fp Z → HK X.K ka.w H fp Z H' v x → HK X.K kb.w H fp Z H' w y → (∀ u H'', Sub H' H'' → HKE X.K Γ env σ k H f0 fp Z H'' u d → Q u H'') → R v w H' Q) :
    SmE X.K xc W Γ (iB ga fun x => iB gb fun y env => (m x y).map fun z => (.ok z, env)) k fun σ H Q => ta σ H fun v H1 => tb σ H1 fun w H2 => R v w H2 Q := by
  intro σ H Q env fp Z r env' E hf hQ
  rcases iB_ok hf with ⟨x, e1, hx, hf⟩ | ⟨cc, dd, hx, rfl⟩
  · refine ha σ H _ env fp Z _ e1 E hx fun H1 f1 E1 x1 v hv => ?_
    rcases iB_ok hf with ⟨y, e2, hy, hf⟩ | ⟨cc, dd, hy, rfl⟩
    · refine hb σ H1 _ e1 f1 Z _ e2 E1 hy fun H2 f2 E2 x2 w hw => ?_
      obtain ⟨d, hd, z⟩ := Option.map_eq_some_iff.mp hf
      cases z
      exact h x y d v w H H2 fp f2 Z Q env' σ hd E2 (hv.hk.ext x2 (Kd.w_cu ca) fun b hb z => E1.dj b z hb) (hw.hk.back x1) fun u H3 s hu => hQ H3 f2 (E2.same s) ((x1.trans x2).trans (Ext.same s)) u hu
    · exact hb σ H1 _ e1 f1 Z _ env' E1 hy fun H2 f2 E2 x2 cls od hx => hQ H2 f2 E2 (x1.trans x2) cls od hx
  · exact ha σ H _ env fp Z _ env' E hx fun H1 f1 E1 x1 cls od hx => hQ H1 f1 E1 x1 cls od hx
theorem si_bin {op : Operator} {r : R2} {m : D → D → Option D} (ho : OpR X (binaryOp op) r) (hg : Fl2 X.K r m) (ha : SI X xc W Γ a ga ka) (hb : SI X xc W Γ b gb kb) (ca : ka.cu = true := by rfl) : SI X xc W Γ (.BinOp a op b pos) (iB ga fun x => iB gb fun y env => (m x y).map fun z => (.ok z, env)) .u := by
  obtain ⟨ta, pa, qa⟩ := ha.ex
  obtain ⟨tb, pb, qb⟩ := hb.ex
  refine ⟨_, pe_op ho pa pb, iTwo qa qb ca fun x y d v w H H' f0 fp Z Q env σ hd E h1 h2 hQ => ?_⟩
  obtain ⟨f, q⟩ := hg v w x y d H' h1.rep h2.rep hd
  exact q Q (hQ _ _ Sub.refl (Rep.ofFlat f))
theorem si_cmp {op : CmpOp} {r : R2} {m : D → D → Option D} (ho : OpR X (compareOp op) r) (hg : Fl2 X.K r m) (ha : SI X xc W Γ a ga ka) (hb : SI X xc W Γ b gb kb) (hm : behindInMarks op b = false := by first | exact nomark _ | rfl) (ca : ka.cu = true := by rfl) : SI X xc W Γ (.Compare a [op] [b] pos) (iB ga fun x => iB gb fun y env => (m x y).map fun z => (.ok z, env)) .u := by
  obtain ⟨ta, pa, qa⟩ := ha.ex
  obtain ⟨tb, pb, qb⟩ := hb.ex
  refine ⟨_, pe_cmpR ho pa pb hm, iTwo qa qb ca fun x y d v w H H' f0 fp Z Q env σ hd E h1 h2 hQ => ?_⟩
  obtain ⟨f, q⟩ := hg v w x y d H' h1.rep h2.rep hd
  exact q Q (hQ _ _ Sub.refl (Rep.ofFlat f))
theorem si_ix (ha : SI X xc W Γ a ga ka) (hb : SI X xc W Γ b gb kb) (hs : PlainIx b := by first | exact (fun _ _ => rfl) | (intro _ _; rfl)) (ca : ka.cu = true := by rfl) : SI X xc W Γ (.Subscript a b pos) (iB ga fun x => iB gb fun y env => (ixD x y).map fun z => (.ok z, env)) .u := by
  obtain ⟨ta, pa, qa⟩ := ha.ex
  obtain ⟨tb, pb, qb⟩ := hb.ex
  refine ⟨_, pe_ix ix_seq pa pb hs, iTwo qa qb ca fun x y d v w H H' f0 fp Z Q env σ hd E h1 h2 hQ => ?_⟩
  have h1 : HK X.K .u H fp Z H' v x := h1.toU (Kd.w_cu ca)
  cases y with
  | int i =>
    cases h2.rep
    cases x with
    | lst xs =>
      obtain ⟨p1, us, rfl, l1, r1⟩ := h1.lst
      obtain ⟨u, hu, ru⟩ := at_reps r1 (i := i) hd
      exact .inl ⟨_, _, _, _, rfl, rfl, l1, hu, hQ _ _ Sub.refl ru⟩
    | tup xs =>
      obtain ⟨p1, us, rfl, l1, r1⟩ := h1.tup
      obtain ⟨u, hu, ru⟩ := at_reps r1 (i := i) hd
      exact .inr (.inl ⟨_, _, _, _, rfl, rfl, l1, hu, hQ _ _ Sub.refl ru⟩)
    | str x =>
      cases h1.rep
      simp only [ixD] at hd
      split at hd
      · rename_i hl
        obtain ⟨c, hc, e⟩ := Option.map_eq_some_iff.mp hd
        subst e
        exact .inr (.inr ⟨_, _, _, rfl, rfl, hl, hc, hQ _ _ Sub.refl (Rep.str _)⟩)
      · cases hd
    | _ => cases hd
  | _ => cases x <;> cases hd
/-! arguments -/
inductive RL where
  | ok (ds : List D) | ex (c : Nat) (d : D)
abbrev IA := En → Option (RL × En)
def SmA (K : PySem.W.Frag) (xc : Nat → Addr) (W : WX) (Γ : List Sh) (f : IA) (t : TA) : Prop :=
  ∀ (σ : L2.St) (H : Hp) (Q : List V → Hp → Prop) (env : En) (fp Z : List Addr) (r : RL) (env' : En), EOk K Γ env σ H fp Z → f env = some (r, env') →
    (∀ H' fp', EOk K Γ env' σ H' fp' Z → Ext H fp H' fp' → match r with
      | .ok ds => ∀ vs, Reps K (hid (fp' ++ Z) H') vs ds → Q vs H'
      | .ex c d => ∀ cls od, XOk K xc fp' Z c d cls od H' → W cls od σ H') → t σ H Q
structure SIA (X : Cx) (xc : Nat → Addr) (W : WX) (Γ : List Sh) (es : List Expr) (f : IA) : Prop where
  ex : ∃ t, PA X es t ∧ SmA X.K xc W Γ f t
def ia0 : IA := fun env => some (.ok [], env)
def ia1 (m : IE) (n : IA) : IA := fun env => match m env with
  | some (.ok d, e) => (match n e with
    | some (.ok ds, e2) => some (.ok (d :: ds), e2)
    | some (.ex c x, e2) => some (.ex c x, e2)
    | none => none)
  | some (.ex c d, e) => some (.ex c d, e)
  | none => none
theorem sia_nil : SIA X xc W Γ [] ia0 := ⟨_, pa_nil, fun σ H Q env fp Z r env' E hf hQ => by cases hf; exact hQ H fp E Ext.refl [] .nil⟩
theorem sia_cons {n : IA} (ha : SI X xc W Γ e g k) (hr : SIA X xc W Γ es n) (hs : starEach (e :: es) X.env = (false, eval e X.env) :: starEach es X.env := by rfl) (ck : k.cu = true := by rfl) : SIA X xc W Γ (e :: es) (ia1 g n) := by
  obtain ⟨t, p, q⟩ := ha.ex
  obtain ⟨t2, p2, q2⟩ := hr.ex
  refine ⟨_, pa_cons p p2 hs, fun σ H Q env fp Z r env' E hf hQ => ?_⟩
  unfold ia1 at hf
  split at hf
  · rename_i d e1 h1
    refine q σ H _ env fp Z _ e1 E h1 fun H1 f1 E1 x1 v hv => ?_
    split at hf
    · rename_i ds e2 h2
      cases hf
      exact q2 σ H1 _ e1 f1 Z _ env' E1 h2 fun H2 f2 E2 x2 vs hvs => hQ H2 f2 E2 (x1.trans x2) _ (.cons (Rep.mono x2.hid (hv.toU ck)) hvs)
    · rename_i cc dd e2 h2
      cases hf
      exact q2 σ H1 _ e1 f1 Z _ env' E1 h2 fun H2 f2 E2 x2 cls od hx => hQ H2 f2 E2 (x1.trans x2) cls od hx
    · cases hf
  · rename_i cc dd e1 h1
    cases hf
    exact q σ H _ env fp Z _ env' E h1 fun H1 f1 E1 x1 cls od hx => hQ H1 f1 E1 x1 cls od hx
  · cases hf
def iaM (n : IA) (m : List D → Option D) : IE := fun env => match n env with
  | some (.ok ds, e) => (m ds).map fun z => (.ok z, e)
  | some (.ex c d, e) => some (.ex c d, e)
  | none => none
theorem iaM_sm {n : IA} {m : List D → Option D} {t : TA} {k : Kd} {R : List V → Hp → VK → Prop} (q : SmA X.K xc W Γ n t)
    (h : ∀ (ds : List D) (d : D) (vs : List V) (H H' : Hp) (f0 fp Z : List Addr) (Q : VK) (env : En) (σ : L2.St), m ds = some d → EOk X.K Γ env σ H' fp Z → (∀ p, H' p = none → H p = none) → Reps X.K (hid (fp ++ Z) H') vs ds → (∀ u H'', Sub H' H'' → HKE X.K Γ env σ k H f0 fp Z H'' u d → Q u H'') → R vs H' Q) :
    SmE X.K xc W Γ (iaM n m) k fun σ H Q => t σ H fun vs H1 => R vs H1 Q := by
  intro σ H Q env fp Z r env' E hf hQ
  unfold iaM at hf
  split at hf
  · rename_i ds e1 h1
    obtain ⟨d, hd, z⟩ := Option.map_eq_some_iff.mp hf
    cases z
    exact q σ H _ env fp Z _ env' E h1 fun H1 f1 E1 x1 vs hvs => h ds d vs H H1 fp f1 Z Q env' σ hd E1 (fun p hp => x1.back hp) hvs fun u H2 s hu => hQ H2 f1 (E1.same s) (x1.trans (Ext.same s)) u hu
  · rename_i cc dd e1 h1
    cases hf
    exact q σ H _ env fp Z _ env' E h1 fun H1 f1 E1 x1 cls od hx => hQ H1 f1 E1 x1 cls od hx
  · cases hf
theorem si_tup {j : Nat} {n : IA} (h : SIA X xc W Γ es n) : SI X xc W Γ (.Tuple es j pos) (iaM n tupD) .u := by
  obtain ⟨t, p, q⟩ := h.ex
  refine ⟨_, pe_tup p, iaM_sm (R := fun vs H1 Q => vs.length ≤ sizeLine ∧ ∀ p, H1 p = none → Q (.ref p) (upd H1 p (.tup vs))) q fun ds d vs H H' f0 fp Z Q env σ hd E hb r hQ => ?_⟩
  unfold tupD at hd
  split at hd
  · rename_i hl
    cases hd
    exact ⟨by rw [r.length]; exact hl, fun p hp => hQ _ _ (Sub.upd hp) (by have z := new_tup (c := true) (H := H') E Sub.refl hp r; exact z)⟩
  · cases hd
theorem si_lst {n : IA} (h : SIA X xc W Γ es n) : SI X xc W Γ (.List es pos) (iaM n lstD) (.nw (.li .fz)) := by
  obtain ⟨t, p, q⟩ := h.ex
  refine ⟨_, pe_lst p, iaM_sm (R := fun vs H1 Q => vs.length ≤ sizeLine ∧ ∀ p, H1 p = none → Q (.ref p) (upd H1 p (.lst vs))) q fun ds d vs H H' f0 fp Z Q env σ hd E hb r hQ => ?_⟩
  unfold lstD at hd
  split at hd
  · rename_i hl
    cases hd
    refine ⟨by rw [r.length]; exact hl, fun p hp => hQ _ _ (Sub.upd hp) ?_⟩
    obtain ⟨fn, a, b, c⟩ := new_list (c := true) (H := H') E Sub.refl hp r
    exact ⟨fn, fun x hx => ⟨.inr (hb x (a x hx).1), (a x hx).2⟩, b, c, E.hide (Sub.upd hp) fun x hx => ⟨(a x hx).1, c.there x hx⟩⟩
  · cases hd
theorem si_callB {x : Str} {id : String} {r : List V → Hp → VK → Prop} {m : List D → Option D} {n : IA} (hc : CallR X (.builtin id) r) (hg : Fl1 X.K r m) (hm : X.mg x = none) (ha : SIA X xc W Γ (e :: es) n) (hgl : Gl X x := by rfl) (hv : bootBuiltins x = some (.builtin id) := by decide +kernel) (hn : x ≠ "__name__" := by decide) (hdb : (x == ("__debug__" : Str)) = false := by decide)
    (he : starEach (e :: es) X.env = (false, eval e X.env) :: starEach es X.env := by rfl) (hpl : (backTo pos (starEach es X.env)).any (·.1) = false := by rfl) : SI X xc W Γ (.Call (.Name x p2) (e :: es) [] pos) (iaM n m) .u := by
  obtain ⟨t, p, q⟩ := ha.ex
  refine ⟨_, pe_callB hc hgl hm hv p hn hdb he hpl, iaM_sm q fun ds d vs H H' f0 fp Z Q env σ hd E hb rr hQ => ?_⟩
  obtain ⟨f1, q1⟩ := hg vs ds d H' (rr.mono hid_sub) hd
  exact q1 Q (hQ _ _ Sub.refl (Rep.ofFlat f1))
theorem si_callTy {x : Str} {T : String} {r : List V → Hp → VK → Prop} {m : List D → Option D} {n : IA} (hc : CallR X (.type T) r) (hg : Fl1 X.K r m) (hm : X.mg x = none) (ha : SIA X xc W Γ (e :: es) n) (hgl : Gl X x := by rfl) (hv : bootBuiltins x = some (.type T) := by decide +kernel) (hn : x ≠ "__name__" := by decide) (hdb : (x == ("__debug__" : Str)) = false := by decide)
    (he : starEach (e :: es) X.env = (false, eval e X.env) :: starEach es X.env := by rfl) (hpl : (backTo pos (starEach es X.env)).any (·.1) = false := by rfl) : SI X xc W Γ (.Call (.Name x p2) (e :: es) [] pos) (iaM n m) .u := by
  obtain ⟨t, p, q⟩ := ha.ex
  refine ⟨_, pe_callTy hc hgl hm hv p hn hdb he hpl, iaM_sm q fun ds d vs H H' f0 fp Z Q env σ hd E hb rr hQ => ?_⟩
  obtain ⟨f1, q1⟩ := hg vs ds d H' (rr.mono hid_sub) hd
  exact q1 Q (hQ _ _ Sub.refl (Rep.ofFlat f1))

/-! an own slot's tree is taken out -/
def mv (i : Nat) : IE := fun env => match env[i]? with
  | some (some d) => some (.ok d, env.set i none)
  | _ => none
theorem si_mv (i : Nat) {s : Sh} {x : Str} (hN : X.N[i]? = some x := by rfl) (hv : Vis X.env.scope x := by first | exact Or.inl rfl | exact Or.inr (Or.inl rfl) | exact Or.inr (Or.inr rfl)) (hs : Γ[i]? = some s := by rfl) (hd : (x == ("__debug__" : Str)) = false := by decide)
    (hcd : (x == ("__classdict__" : Str)) = false := by decide) : SI X xc W Γ (.Name x p2) (mv i) (.nw s) := by
  refine ⟨_, pe_var hN hv hd hcd, fun σ H Q env fp Z r env' E hf hQ => ?_⟩
  unfold mv at hf
  split at hf
  · rename_i d hd'
    cases hf
    obtain ⟨⟨fq, t, nq, iq⟩, dj, ok⟩ := id E
    obtain ⟨f1, f2, f3, rfl, a, b⟩ := t.put hs
    obtain ⟨v, hv, tv⟩ := a d hd'
    obtain ⟨n1, n23, d12⟩ := List.nodup_append.mp nq
    obtain ⟨n2, n3, d23⟩ := List.nodup_append.mp n23
    have in2 : ∀ b ∈ f2, b ∈ fp := fun b hb => iq b (List.mem_append_right _ (List.mem_append_left _ hb))
    have hrest : ∀ b ∈ fp.filter (fun b => decide (b ∉ f2)), b ∈ fp ∧ b ∉ f2 := fun b hb => ⟨(List.mem_filter.mp hb).1, of_decide_eq_true (List.mem_filter.mp hb).2⟩
    have hsplit : ∀ b ∈ fp, b ∈ f2 ∨ b ∈ fp.filter (fun b => decide (b ∉ f2)) := fun b hb => by
      by_cases z : b ∈ f2
      · exact .inl z
      · exact .inr (List.mem_filter.mpr ⟨hb, decide_eq_true z⟩)
    have inf : ∀ b, b ∈ fp ++ Z → b ∈ f2 ++ ((fp.filter fun b => decide (b ∉ f2)) ++ Z) := fun b hb => by
      rcases List.mem_append.mp hb with z | z
      · rcases hsplit b z with q | q
        · exact List.mem_append_left _ q
        · exact List.mem_append_right _ (List.mem_append_left _ q)
      · exact List.mem_append_right _ (List.mem_append_right _ z)
    have fni : ∀ b, b ∈ f2 ++ ((fp.filter fun b => decide (b ∉ f2)) ++ Z) → b ∈ fp ++ Z := fun b hb => by
      rcases List.mem_append.mp hb with z | z
      · exact List.mem_append_left _ (in2 b z)
      · rcases List.mem_append.mp z with z | z
        · exact List.mem_append_left _ (hrest b z).1
        · exact List.mem_append_right _ z
    have sw : ∀ b, b ∈ (fp.filter fun b => decide (b ∉ f2)) ++ (f2 ++ Z) → b ∈ fp ++ Z := fun b hb => by
      rcases List.mem_append.mp hb with z | z
      · exact List.mem_append_left _ (hrest b z).1
      · rcases List.mem_append.mp z with z | z
        · exact List.mem_append_left _ (in2 b z)
        · exact List.mem_append_right _ z
    have E1 : EOk X.K Γ (env.set i none) σ H (fp.filter fun b => decide (b ∉ f2)) (f2 ++ Z) := by
      obtain ⟨b1, _, _⟩ := b H (hid ((fp.filter fun b => decide (b ∉ f2)) ++ (f2 ++ Z)) H) (hid_less sw) fun _ _ _ h => h
      refine ⟨⟨f1 ++ f3, b1, List.nodup_append.mpr ⟨n1, n3, fun x hx y hy => d12 x hx y (List.mem_append_right _ hy)⟩, fun b hb => ?_⟩, fun b hb z => ?_, fun b hb => ok b (sw b hb)⟩
      · rcases List.mem_append.mp hb with z | z
        · exact List.mem_filter.mpr ⟨iq b (List.mem_append_left _ z), decide_eq_true fun q => d12 b z b (List.mem_append_left _ q) rfl⟩
        · exact List.mem_filter.mpr ⟨iq b (List.mem_append_right _ (List.mem_append_right _ z)), decide_eq_true fun q => d23 b q b z rfl⟩
      · rcases List.mem_append.mp z with z | z
        · exact (hrest b hb).2 z
        · exact dj b (hrest b hb).1 z
    refine ⟨v, hv, ?_⟩
    refine hQ H _ E1.un ⟨fun b o h _ => h, fun b hb => .inl (hrest b hb).1, fun b hb h => h⟩ v ?_
    refine ⟨f2, fun b hb => ⟨.inl (in2 b hb), fun z => ?_⟩, n2, tv.mono (hid_less fni) fun _ _ _ h => h, E1⟩
    rcases List.mem_append.mp z with z | z
    · exact (hrest b z).2 hb
    · exact dj b (in2 b hb) z
  · cases hf
end
end Py

set_option Elab.async false
set_option linter.all false
set_option maxRecDepth 100000
set_option maxHeartbeats 4000000
/-! Own layer: contracts of defs, statements. -/
namespace Py
open PySem PySem.Spec PyProof.Rows L2

/-! ### contracts -/
inductive Out where
  | rt (d : D) | ex (c : Nat) (d : D)
  deriving Inhabited
/-- a def as a function: what it hands back, and what its own arguments are then -/
abbrev DF := List D → Option (Out × List D)
/-- of the places that are own -/
def flt {α : Type} : List Sh → List α → List α
  | .fz :: Γ, _ :: xs => flt Γ xs
  | _ :: Γ, x :: xs => x :: flt Γ xs
  | _, _ => []
def spD (K : PySem.W.Frag) (xc : Nat → Addr) (Γp : List Sh) (rk : Kd) (F : DF) : Sp := fun vs H Q E => ∃ (ds : List D) (fp Z : List Addr) (out : Out) (os : List D),
  EOk K Γp (ds.map some) (vs.map some) H fp Z ∧ F ds = some (out, os) ∧
  ∀ (H' : Hp) (fp' : List Addr), EOk K (flt Γp Γp) (os.map some) ((flt Γp vs).map some) H' fp' Z → Ext H fp H' fp' → match out with
    | .rt d => ∀ v, HKE K (flt Γp Γp) (os.map some) ((flt Γp vs).map some) rk H fp fp' Z H' v d → Q v H'
    | .ex c d => ∀ cls od, XOk K xc fp' Z c d cls od H' → E cls od H'
theorem spD_len {K : PySem.W.Frag} {xc : Nat → Addr} {Γp : List Sh} {rk : Kd} {F : DF} {vs : List V} {H : Hp} {Q : VK} {E : XK} (h : spD K xc Γp rk F vs H Q E) : vs.length = Γp.length := by
  obtain ⟨ds, fp, Z, out, os, e, _⟩ := h
  obtain ⟨fq, t, _⟩ := e.ex
  have := t.lens.2
  simpa using this.symm
/-- a def by its name -/
structure Df (P : Program) (w : World) (K : PySem.W.Frag) (mg : Str → Option Value) (base : Heap) (xc : Nat → Addr) (k : Nat) (x : Str) (ps : List Str) (Γp : List Sh) (rk : Kd) (F : DF) (dfl : List D) : Prop where
  ex : ∃ (f : Addr) (fd : FuncData) (ds : List Value), mg x = some (.ref f) ∧ FnOk P w K mg base (L2.CX P w) k f fd ps (spD K xc Γp rk F) ∧ PySem.W.keepIn K (.ref f) = true ∧ Binds K fd ps ds ∧ Vals (dfl.map D.v) ds ∧ dfl.all D.flat = true

/-! ### statements -/
inductive Fl where
  | nx | bk | ct | rt (d : D) | ex (c : Nat) (d : D)
  deriving Inhabited
abbrev SE := En → Option (Fl × En)
/-- own arguments keep their places -/
def Prot (np : Nat) (Γ : List Sh) (σ σ' : L2.St) : Prop := ∀ (i : Nat) (s : Sh), i < np → Γ[i]? = some s → s ≠ .fz → σ'[i]? = σ[i]?
theorem Prot.refl {np : Nat} {Γ : List Sh} {σ : L2.St} : Prot np Γ σ σ := fun _ _ _ _ _ => rfl
theorem Prot.trans {np : Nat} {Γ : List Sh} {σ σ1 σ2 : L2.St} (a : Prot np Γ σ σ1) (b : Prot np Γ σ1 σ2) : Prot np Γ σ σ2 := fun i s h g n => (b i s h g n).trans (a i s h g n)
def FlOk (K : PySem.W.Frag) (xc : Nat → Addr) (W : WX) (Γ : List Sh) (rk : Kd) (D : Ends) (H : Hp) (fp : List Addr) (fl : Fl) (env' : En) (σ' : L2.St) (H' : Hp) (fp' Z : List Addr) : Prop := match fl with
  | .nx => D.nx σ' H'
  | .bk => D.bk σ' H'
  | .ct => D.ct σ' H'
  | .rt d => ∀ v, HKE K Γ env' σ' rk H fp fp' Z H' v d → D.rt v H'
  | .ex c d => ∀ cls od, XOk K xc fp' Z c d cls od H' → W cls od σ' H'
def SmS (K : PySem.W.Frag) (xc : Nat → Addr) (W : WX) (np : Nat) (Γ : List Sh) (rk : Kd) (f : SE) (t : TS) : Prop :=
  ∀ (D : Ends) (σ : L2.St) (H : Hp) (env : En) (fp Z : List Addr) (fl : Fl) (env' : En), EOk K Γ env σ H fp Z → f env = some (fl, env') →
    (∀ σ' H' fp', EOk K Γ env' σ' H' fp' Z → Ext H fp H' fp' → Prot np Γ σ σ' → FlOk K xc W Γ rk D H fp fl env' σ' H' fp' Z) → t D σ H
structure SS (X : Cx) (xc : Nat → Addr) (W : WX) (np : Nat) (Γ : List Sh) (rk : Kd) (st : Stmt) (f : SE) : Prop where
  ex : ∃ t, PS X st t ∧ SmS X.K xc W np Γ rk f t
structure SSs (X : Cx) (xc : Nat → Addr) (W : WX) (np : Nat) (Γ : List Sh) (rk : Kd) (st : List Stmt) (f : SE) : Prop where
  ex : ∃ t, PSs X st t ∧ SmS X.K xc W np Γ rk f t
theorem FlOk.ext {K : PySem.W.Frag} {xc : Nat → Addr} {W : WX} {Γ : List Sh} {env' : En} {rk : Kd} {D : Ends} {H H1 : Hp} {f f1 : List Addr} {fl : Fl} {σ' : L2.St} {H' : Hp} {fp' Z : List Addr} (h : FlOk K xc W Γ rk D H f fl env' σ' H' fp' Z) (e : Ext H f H1 f1) : FlOk K xc W Γ rk D H1 f1 fl env' σ' H' fp' Z := by
  cases fl with
  | rt d => exact fun v hv => h v (hv.back e)
  | _ => exact h
/-! combinators -/
def q0 : SE := fun env => some (.nx, env)
def q1 (f g : SE) : SE := fun env => match f env with
  | some (.nx, e) => g e
  | r => r
def qRt (m : IE) : SE := fun env => match m env with
  | some (.ok d, e) => some (.rt d, e)
  | some (.ex c d, e) => some (.ex c d, e)
  | none => none
def qDo (m : IE) (g : D → En → Option En) : SE := fun env => match m env with
  | some (.ok d, e) => (g d e).map fun e2 => (.nx, e2)
  | some (.ex c d, e) => some (.ex c d, e)
  | none => none
def qIf (t : En → Option Bool) (f g : SE) : SE := fun env => match t env with
  | some true => f env
  | some false => g env
  | none => none
def put (i : Nat) (d : D) (env : En) : Option En := if i < env.length then some (env.set i (some d)) else none
def putI (i : Nat) (d : D) (env : En) : Option En := if d.imm = true then (if i < env.length then some (env.set i (some d)) else none) else none
section
variable {X : Cx} {xc : Nat → Addr} {W : WX} {np : Nat} {Γ : List Sh} {rk : Kd} {a b c e : Expr} {st : Stmt} {sts sts2 : List Stmt} {f g h : SE} {fa fb : En → Option D} {m : IE} {n : IA} {ka kb k : Kd} {pos p2 p3 : Pos}
theorem qq_nil : SSs X xc W np Γ rk [] q0 := ⟨_, pss_nil, fun D σ H env fp Z fl env' E hf hQ => by cases hf; exact hQ σ H fp E Ext.refl Prot.refl⟩
theorem q1_ok {f g : SE} {env env' : En} {fl : Fl} (h : q1 f g env = some (fl, env')) : (∃ e, f env = some (.nx, e) ∧ g e = some (fl, env')) ∨ (f env = some (fl, env') ∧ fl ≠ .nx) := by
  unfold q1 at h
  split at h
  · rename_i e q; exact .inl ⟨e, q, h⟩
  · rename_i r q
    refine .inr ⟨h, fun z => ?_⟩
    subst z
    exact q env' h
theorem qq_cons (h1 : SS X xc W np Γ rk st f) (h2 : SSs X xc W np Γ rk sts g) : SSs X xc W np Γ rk (st :: sts) (q1 f g) := by
  obtain ⟨t, p, q⟩ := h1.ex
  obtain ⟨t2, p2, q2⟩ := h2.ex
  refine ⟨_, pss_cons p p2, fun D σ H env fp Z fl env' E hf hQ => ?_⟩
  rcases q1_ok hf with ⟨e1, h1, h2⟩ | ⟨h1, nx⟩
  · refine q _ σ H env fp Z _ e1 E h1 fun σ1 H1 f1 E1 x1 r1 => ?_
    exact q2 D σ1 H1 e1 f1 Z fl env' E1 h2 fun σ2 H2 f2 E2 x2 r2 => (hQ σ2 H2 f2 E2 (x1.trans x2) (r1.trans r2)).ext x1
  · refine q _ σ H env fp Z fl env' E h1 fun σ1 H1 f1 E1 x1 r1 => ?_
    have z := hQ σ1 H1 f1 E1 x1 r1
    cases fl with
    | nx => exact absurd rfl nx
    | _ => exact z
theorem qq_one (h1 : SS X xc W np Γ rk st f) : SSs X xc W np Γ rk [st] f := by
  obtain ⟨t, p, q⟩ := h1.ex
  exact ⟨t, pss_one p, q⟩
theorem qs_pass : SS X xc W np Γ rk (.Pass pos) q0 := ⟨_, ps_pass, fun D σ H env fp Z fl env' E hf hQ => by cases hf; exact hQ σ H fp E Ext.refl Prot.refl⟩
theorem qs_break : SS X xc W np Γ rk (.Break pos) (fun env => some (.bk, env)) := ⟨_, ps_break, fun D σ H env fp Z fl env' E hf hQ => by cases hf; exact hQ σ H fp E Ext.refl Prot.refl⟩
theorem qs_cont : SS X xc W np Γ rk (.Continue pos) (fun env => some (.ct, env)) := ⟨_, ps_continue, fun D σ H env fp Z fl env' E hf hQ => by cases hf; exact hQ σ H fp E Ext.refl Prot.refl⟩
theorem qs_ret (he : SI X xc W Γ e m rk) : SS X xc W np Γ rk (.Return (some e) pos) (qRt m) := by
  obtain ⟨t, p, q⟩ := he.ex
  refine ⟨_, ps_ret p, fun D σ H env fp Z fl env' E hf hQ => ?_⟩
  unfold qRt at hf
  split at hf
  · rename_i d e1 h1
    cases hf
    exact q σ H _ env fp Z _ env' E h1 fun H1 f1 E1 x1 v hv => hQ σ H1 f1 E1 x1 Prot.refl v hv
  · rename_i cc dd e1 h1
    cases hf
    exact q σ H _ env fp Z _ env' E h1 fun H1 f1 E1 x1 cls od hx => hQ σ H1 f1 E1 x1 Prot.refl cls od hx
  · cases hf
theorem qs_retN : SS X xc W np Γ .u (.Return none pos) (fun env => some (.rt .non, env)) := ⟨_, ps_retN, fun D σ H env fp Z fl env' E hf hQ => by cases hf; exact hQ σ H fp E Ext.refl Prot.refl .non Rep.non⟩
theorem qs_drop (he : SI X xc W Γ e m k) (hs : swapsWith e none pos.line X.env = pure false := by rfl) : SS X xc W np Γ rk (.Expr e pos) (qDo m fun _ env => some env) := by
  obtain ⟨t, p, q⟩ := he.ex
  refine ⟨_, ps_expr p hs, fun D σ H env fp Z fl env' E hf hQ => ?_⟩
  unfold qDo at hf
  split at hf
  · rename_i d e1 h1
    cases hf
    exact q σ H _ env fp Z _ env' E h1 fun H1 f1 E1 x1 v hv => hQ σ H1 f1 E1 x1 Prot.refl
  · rename_i cc dd e1 h1
    cases hf
    exact q σ H _ env fp Z _ env' E h1 fun H1 f1 E1 x1 cls od hx => hQ σ H1 f1 E1 x1 Prot.refl cls od hx
  · cases hf
theorem qs_if {tt : En → Option Bool} (hc : ST X Γ c tt) (ha : SSs X xc W np Γ rk sts f) (hb : SSs X xc W np Γ rk sts2 g) : SS X xc W np Γ rk (.If c sts sts2 pos) (qIf tt f g) := by
  obtain ⟨t, p, q⟩ := hc.ex
  obtain ⟨ta, pa, qa⟩ := ha.ex
  obtain ⟨tb, pb, qb⟩ := hb.ex
  refine ⟨_, ps_if p pa pb, fun D σ H env fp Z fl env' E hf hQ => ?_⟩
  unfold qIf at hf
  split at hf
  · rename_i h1
    refine q σ H _ env fp Z _ E h1 fun H1 s1 => ?_
    rw [if_pos rfl]
    exact qa D σ H1 env fp Z fl env' (E.same s1) hf fun σ2 H2 f2 E2 x2 r2 => (hQ σ2 H2 f2 E2 ((Ext.same s1).trans x2) r2).ext (Ext.same (fp := fp) s1)
  · rename_i h1
    refine q σ H _ env fp Z _ E h1 fun H1 s1 => ?_
    rw [if_neg Bool.false_ne_true]
    exact qb D σ H1 env fp Z fl env' (E.same s1) hf fun σ2 H2 f2 E2 x2 r2 => (hQ σ2 H2 f2 E2 ((Ext.same s1).trans x2) r2).ext (Ext.same (fp := fp) s1)
  · cases hf
/-! a name is stored -/
theorem EOk.setF {K : PySem.W.Frag} {Γ : List Sh} {env : En} {σ : L2.St} {H : Hp} {fp Z : List Addr} {i : Nat} {v : V} {d : D} (E : EOk K Γ env σ H fp Z) (hs : Γ[i]? = some .fz) (r : Rep K (hid (fp ++ Z) H) v d) : EOk K Γ (env.set i (some d)) (σ.set i (some v)) H fp Z := by
  obtain ⟨⟨fq, t, n, s⟩, dj, ok⟩ := E
  obtain ⟨f1, f2, f3, rfl, a, b⟩ := t.put hs
  obtain ⟨_, _, b3⟩ := b H (hid (fp ++ Z) H) Sub.refl fun _ _ _ h => h
  have z := (b3 v d [] (.fz r)).1
  obtain ⟨n1, n23, d12⟩ := List.nodup_append.mp n
  obtain ⟨n2, n3, d23⟩ := List.nodup_append.mp n23
  refine ⟨⟨f1 ++ f3, by simpa using z, List.nodup_append.mpr ⟨n1, n3, fun x hx y hy => d12 x hx y (List.mem_append_right _ hy)⟩, fun b hb => s b ?_⟩, dj, ok⟩
  exact (List.mem_append.mp hb).elim (fun w => List.mem_append_left _ w) fun w => List.mem_append_right _ (List.mem_append_right _ w)
theorem EOk.setN {K : PySem.W.Frag} {Γ : List Sh} {env : En} {σ : L2.St} {H : Hp} {fp Z : List Addr} {i : Nat} {x : Option V} {s : Sh} (E : EOk K Γ env σ H fp Z) (hs : Γ[i]? = some s) : EOk K Γ (env.set i none) (σ.set i x) H fp Z := by
  obtain ⟨⟨fq, t, n, s⟩, dj, ok⟩ := E
  obtain ⟨f1, f2, f3, rfl, a, b⟩ := t.put hs
  obtain ⟨_, b2, _⟩ := b H (hid (fp ++ Z) H) Sub.refl fun _ _ _ h => h
  obtain ⟨n1, n23, d12⟩ := List.nodup_append.mp n
  obtain ⟨n2, n3, d23⟩ := List.nodup_append.mp n23
  refine ⟨⟨f1 ++ f3, b2 x, List.nodup_append.mpr ⟨n1, n3, fun x hx y hy => d12 x hx y (List.mem_append_right _ hy)⟩, fun b hb => s b ?_⟩, dj, ok⟩
  exact (List.mem_append.mp hb).elim (fun w => List.mem_append_left _ w) fun w => List.mem_append_right _ (List.mem_append_right _ w)
/-- an own slot gets a new tree -/
theorem EOk.setO {K : PySem.W.Frag} {Γ : List Sh} {env : En} {σ : L2.St} {H : Hp} {fp fn Z : List Addr} {i : Nat} {s : Sh} {v : V} {d : D} (hs : Γ[i]? = some s) (nn : fn.Nodup) (tr : Tr K H (hid (fn ++ (fp ++ Z)) H) s v d fn) (dn : ∀ b ∈ fn, b ∉ fp ++ Z) (E : EOk K Γ env σ H fp (fn ++ Z)) :
    EOk K Γ (env.set i (some d)) (σ.set i (some v)) H (fn ++ fp) Z := by
  obtain ⟨⟨fq, t, n, sq⟩, dj, ok⟩ := E
  obtain ⟨f1, f2, f3, rfl, a, b⟩ := t.put hs
  have s1 : Sub (hid (fn ++ (fp ++ Z)) H) (hid ((fn ++ fp) ++ Z) H) := by rw [List.append_assoc]; exact Sub.refl
  have s2 : Sub (hid (fp ++ (fn ++ Z)) H) (hid ((fn ++ fp) ++ Z) H) := hid_less fun b hb => by
    rcases List.mem_append.mp hb with z | z
    · exact (List.mem_append.mp z).elim (fun w => List.mem_append_right _ (List.mem_append_left _ w)) (fun w => List.mem_append_left _ w)
    · exact List.mem_append_right _ (List.mem_append_right _ z)
  have z := ((b H (hid ((fn ++ fp) ++ Z) H) s2 fun _ _ _ h => h).2.2 v d fn (tr.mono s1 fun _ _ _ h => h)).1
  obtain ⟨n1, n23, d12⟩ := List.nodup_append.mp n
  obtain ⟨n2, n3, d23⟩ := List.nodup_append.mp n23
  have o13 : ∀ b ∈ f1 ++ f3, b ∉ fn := fun b hb w => dn b w (List.mem_append_left _ (sq b ((List.mem_append.mp hb).elim (fun w => List.mem_append_left _ w) fun w => List.mem_append_right _ (List.mem_append_right _ w))))
  refine ⟨⟨f1 ++ (fn ++ f3), z, List.nodup_append.mpr ⟨n1, List.nodup_append.mpr ⟨nn, n3, fun x hx y hy q => ?_⟩, fun x hx y hy q => ?_⟩, fun b hb => ?_⟩, fun b hb w => ?_, fun b hb => ?_⟩
  · subst q; exact o13 x (List.mem_append_right _ hy) hx
  · subst q
    rcases List.mem_append.mp hy with w | w
    · exact o13 x (List.mem_append_left _ hx) w
    · exact d12 x hx x (List.mem_append_right _ w) rfl
  · rcases List.mem_append.mp hb with w | w
    · exact List.mem_append_right _ (sq b (List.mem_append_left _ w))
    · rcases List.mem_append.mp w with w | w
      · exact List.mem_append_left _ w
      · exact List.mem_append_right _ (sq b (List.mem_append_right _ (List.mem_append_right _ w)))
  · rcases List.mem_append.mp hb with q | q
    · exact dn b q (List.mem_append_right _ w)
    · exact dj b q (List.mem_append_right _ w)
  · rcases List.mem_append.mp hb with w | w
    · rcases List.mem_append.mp w with w | w
      · exact tr.there b w
      · exact ok b (List.mem_append_left _ w)
    · exact ok b (List.mem_append_right _ (List.mem_append_right _ w))
theorem Ext.more {H H' : Hp} {f f' fn : List Addr} (e : Ext H f H' f') (h : ∀ b ∈ fn, b ∈ f ∨ H b = none) : Ext H f H' (fn ++ f') := ⟨e.keep, fun b hb => (List.mem_append.mp hb).elim (fun w => h b w) (e.own b), e.there⟩
theorem Prot.set {np : Nat} {Γ : List Sh} {σ : L2.St} {i : Nat} {x : Option V} (h : Γ[i]? = some .fz ∨ np ≤ i) : Prot np Γ σ (σ.set i x) := fun j s hj hs hn => by
  have ne : i ≠ j := fun e => by
    subst e
    rcases h with h | h
    · rw [h] at hs; cases hs; exact hn rfl
    · omega
  exact List.getElem?_set_ne ne
theorem put_ok {i : Nat} {d : D} {env env' : En} (h : put i d env = some env') : i < env.length ∧ env' = env.set i (some d) := by
  unfold put at h
  split at h
  · rename_i c; cases h; exact ⟨c, rfl⟩
  · cases h
theorem putI_ok {i : Nat} {d : D} {env env' : En} (h : putI i d env = some env') : d.imm = true ∧ env' = env.set i (some d) := by
  unfold putI at h
  split at h
  · rename_i c
    split at h
    · cases h; exact ⟨c, rfl⟩
    · cases h
  · cases h
/-- an own place of names: store v at slot i -/
theorem qs_set (i : Nat) {x : Str} (he : SI X xc W Γ e m .u) (hN : X.N.Nodup) (hi : X.N[i]? = some x := by rfl) (hx : Loc X.env.scope x := by first | exact .inl rfl | exact .inr rfl) (hs : Γ[i]? = some .fz := by rfl) (hsw : swapsWith e (some (.Name x p2)) pos.line X.env = pure false := by rfl) (hf : X.fn x = true ∨ X.env.scope.names.lookup x = some .local := by first | exact .inl rfl | exact .inr rfl) :
    SS X xc W np Γ rk (.Assign [.Name x p2] e pos) (qDo m (put i)) := by
  obtain ⟨t, p, q⟩ := he.ex
  refine ⟨_, ps_set hN hi hx p hsw hf, fun D σ H env fp Z fl env' E hf hQ => ?_⟩
  unfold qDo at hf
  split at hf
  · rename_i d e1 h1
    obtain ⟨e2, h2, z⟩ := Option.map_eq_some_iff.mp hf
    cases z
    obtain ⟨hl, rfl⟩ := put_ok h2
    exact q σ H _ env fp Z _ e1 E h1 fun H1 f1 E1 x1 v hv => hQ _ H1 f1 (E1.setF hs hv) x1 (Prot.set (.inl hs))
  · rename_i cc dd e1 h1
    cases hf
    exact q σ H _ env fp Z _ env' E h1 fun H1 f1 E1 x1 cls od hx => hQ σ H1 f1 E1 x1 Prot.refl cls od hx
  · cases hf
theorem qs_setI (i : Nat) {x : Str} (he : SI X xc W Γ e m k) (hN : X.N.Nodup) (hi : X.N[i]? = some x := by rfl) (hx : Loc X.env.scope x := by first | exact .inl rfl | exact .inr rfl) (hs : Γ[i]? = some .fz := by rfl) (hsw : swapsWith e (some (.Name x p2)) pos.line X.env = pure false := by rfl) (hf : X.fn x = true ∨ X.env.scope.names.lookup x = some .local := by first | exact .inl rfl | exact .inr rfl) :
    SS X xc W np Γ rk (.Assign [.Name x p2] e pos) (qDo m (putI i)) := by
  obtain ⟨t, p, q⟩ := he.ex
  refine ⟨_, ps_set hN hi hx p hsw hf, fun D σ H env fp Z fl env' E hf hQ => ?_⟩
  unfold qDo at hf
  split at hf
  · rename_i d e1 h1
    obtain ⟨e2, h2, z⟩ := Option.map_eq_some_iff.mp hf
    cases z
    obtain ⟨hl, rfl⟩ := putI_ok h2
    exact q σ H _ env fp Z _ e1 E h1 fun H1 f1 E1 x1 v hv => hQ _ H1 f1 (E1.setF hs (Rep.imm E1.nt hv.hk.rep hl)) x1 (Prot.set (.inl hs))
  · rename_i cc dd e1 h1
    cases hf
    exact q σ H _ env fp Z _ env' E h1 fun H1 f1 E1 x1 cls od hx => hQ σ H1 f1 E1 x1 Prot.refl cls od hx
  · cases hf
theorem qs_setO (i : Nat) {s : Sh} {x : Str} (he : SI X xc W Γ e m (.nw s)) (hN : X.N.Nodup) (hi : X.N[i]? = some x := by rfl) (hx : Loc X.env.scope x := by first | exact .inl rfl | exact .inr rfl) (hs : Γ[i]? = some s := by rfl) (hnp : np ≤ i := by decide) (hsw : swapsWith e (some (.Name x p2)) pos.line X.env = pure false := by rfl) (hf : X.fn x = true ∨ X.env.scope.names.lookup x = some .local := by first | exact .inl rfl | exact .inr rfl) :
    SS X xc W np Γ rk (.Assign [.Name x p2] e pos) (qDo m (put i)) := by
  obtain ⟨t, p, q⟩ := he.ex
  refine ⟨_, ps_set hN hi hx p hsw hf, fun D σ H env fp Z fl env' E hf hQ => ?_⟩
  unfold qDo at hf
  split at hf
  · rename_i d e1 h1
    obtain ⟨e2, h2, z⟩ := Option.map_eq_some_iff.mp hf
    cases z
    obtain ⟨hl, rfl⟩ := put_ok h2
    refine q σ H _ env fp Z _ e1 E h1 fun H1 f1 E1 x1 v hv => ?_
    obtain ⟨fn, a, nn, tr, E2⟩ := hv
    exact hQ _ H1 (fn ++ f1) (EOk.setO hs nn tr (fun b hb => (a b hb).2) E2) (x1.more fun b hb => (a b hb).1) (Prot.set (.inr hnp))
  · rename_i cc dd e1 h1
    cases hf
    exact q σ H _ env fp Z _ env' E h1 fun H1 f1 E1 x1 cls od hx => hQ σ H1 f1 E1 x1 Prot.refl cls od hx
  · cases hf
end
end Py

set_option Elab.async false
set_option linter.all false
set_option maxRecDepth 100000
set_option maxHeartbeats 4000000
/-! Own layer: calls of own defs, a def from its body. -/
namespace Py
open PySem PySem.Spec PyProof.Rows L2

def Sh.isF (s : Sh) : Bool := decide (s = .fz)
theorem allF : ∀ {Γ : List Sh}, Γ.all Sh.isF = true → Γ = List.replicate Γ.length .fz
  | [], _ => rfl
  | s :: Γ, h => by
    have h' := Bool.and_eq_true_iff.mp (show (s.isF && Γ.all Sh.isF) = true from h)
    have e : s = .fz := of_decide_eq_true h'.1
    rw [List.length_cons, List.replicate_succ, ← allF h'.2, e]
theorem TrE.ofReps {K : PySem.W.Frag} {H G : Hp} : ∀ {vs : List V} {ds : List D}, Reps K G vs ds → TrE K H G (List.replicate vs.length .fz) (ds.map some) (vs.map some) []
  | _, _, .nil => .nil
  | _, _, .cons h r => by
    rw [List.length_cons, List.replicate_succ]
    exact TrE.has (fp := []) (.fz h) (TrE.ofReps r)
theorem EOk.args {K : PySem.W.Frag} {Γp : List Sh} {H : Hp} {O : List Addr} {vs : List V} {ds : List D} (hf : Γp.all Sh.isF = true) (hl : Γp.length = ds.length) (r : Reps K (hid O H) vs ds) (ok : ∀ b ∈ O, ∃ o, H b = some o ∧ NT o) : EOk K Γp (ds.map some) (vs.map some) H [] O := by
  refine ⟨⟨[], ?_, List.nodup_nil, fun _ z => (nomatch z)⟩, fun _ z => (nomatch z), ok⟩
  rw [allF hf, hl, ← r.length]
  exact TrE.ofReps r
theorem Reps.flats {K : PySem.W.Frag} {G : Hp} : ∀ {ds : List D}, ds.all D.flat = true → Reps K G (ds.map D.v) ds
  | [], _ => .nil
  | d :: ds, h => by
    have h' := Bool.and_eq_true_iff.mp (show (d.flat && ds.all D.flat) = true from h)
    exact .cons (Rep.ofFlat h'.1) (Reps.flats h'.2)
theorem XOk.mono {K : PySem.W.Frag} {xc : Nat → Addr} {fp fp' Z Z' : List Addr} {c : Nat} {d : D} {cls : Value} {od : Option Addr} {H : Hp} (h : XOk K xc fp Z c d cls od H) (s : ∀ b ∈ fp' ++ Z', b ∈ fp ++ Z) : XOk K xc fp' Z' c d cls od H := by
  obtain ⟨a, b | ⟨dx, v, e1, e2, r⟩⟩ := h
  · exact ⟨a, .inl b⟩
  · exact ⟨a, .inr ⟨dx, v, e1, hid_less s _ _ e2, r.mono (hid_less s)⟩⟩
section
variable {X : Cx} {xc : Nat → Addr} {W : WX} {np : Nat} {Γ Γp : List Sh} {rk : Kd} {a b c e : Expr} {es : List Expr} {st : Stmt} {sts sts2 : List Stmt} {fa fb : En → Option D} {fs : En → Option (List D)} {m : IE} {n : IA} {ka kb k : Kd} {ks : List Kd} {pos p2 p3 : Pos} {F : DF} {dfl : List D} {x : Str} {ps : List Str} {j kk : Nat}
/-- what the rules of calls have in common -/
theorem call_sem {env : En} {σ : L2.St} {H : Hp} {fp Z : List Addr} {vs : List V} {ds os : List D} {out : Out} {Q : VK} {E : XK} (hf : Γp.all Sh.isF = true) (E0 : EOk X.K Γ env σ H fp Z) (r : Reps X.K (hid (fp ++ Z) H) vs ds) (hl : Γp.length = ds.length) (hF : F ds = some (out, os))
    (hQ : ∀ H', Sub H H' → match out with
      | .rt d => ∀ v, HKE X.K Γ env σ rk H fp fp Z H' v d → Q v H'
      | .ex c d => ∀ cls od, XOk X.K xc fp Z c d cls od H' → E cls od H') (hrk : rk.cu = true) : spD X.K xc Γp rk F vs H Q E := by
  refine ⟨ds, [], fp ++ Z, out, os, EOk.args hf hl r E0.ok, hF, fun H' f' Eo x => ?_⟩
  have s : Sub H H' := fun b o h => x.keep b o h fun z => nomatch z
  have q := hQ H' s
  have less : ∀ b ∈ fp ++ Z, b ∈ f' ++ (fp ++ Z) := fun b hb => List.mem_append_right _ hb
  cases out with
  | ex c d => exact fun cls od hx => q cls od (hx.mono less)
  | rt d =>
    refine fun v hv => q v ?_
    cases rk with
    | u => exact Rep.mono (hid_less less) hv
    | t => cases hrk
    | vw s' =>
      cases s' with
      | fz =>
        obtain ⟨fv, z1, z2, t⟩ := hv
        cases t with
        | fz t => exact ⟨[], fun _ z => (nomatch z), List.nodup_nil, .fz (t.mono (hid_less less))⟩
      | _ => cases hrk
    | nw s' =>
      obtain ⟨fn, z1, z2, t, Eo2⟩ := hv
      have fr : ∀ b ∈ fn, H b = none := fun b hb => (z1 b hb).1.elim (fun z => nomatch z) fun z => z
      refine ⟨fn, fun b hb => ⟨.inr (fr b hb), fun z => (z1 b hb).2 (less b z)⟩, z2, t.mono (hid_less fun b hb => ?_) fun _ _ _ h => h, E0.hide s fun b hb => ⟨fr b hb, t.there b hb⟩⟩
      exact (List.mem_append.mp hb).elim (fun w => List.mem_append_left _ w) fun w => List.mem_append_right _ (less b w)
/-- a pure call -/
def cD (F : DF) (dfl : List D) (ds : List D) : Option D := match F (ds ++ dfl) with
  | some (.rt d, _) => some d
  | _ => none
theorem WE_def {W : WX} {σ : L2.St} : WE W σ = fun cls d H => W cls d σ H := rfl
theorem s_callD (h : Df X.prog X.w X.K X.mg X.base xc j x ps Γp rk F dfl) (hr : Room kk X.A) (ha : SAs X Γ (e :: es) fs ks) (hj : j ≤ kk := by decide) (hgl : Gl X x := by rfl) (hf : Γp.all Sh.isF = true := by rfl) (hrk : rk.cu = true := by rfl) (hks : ks.all Kd.cu = true := by rfl) (hlen : Γp.length = ks.length + dfl.length := by rfl)
    (hdb : (x == ("__debug__" : Str)) = false := by decide) (he : starEach (e :: es) X.env = (false, eval e X.env) :: starEach es X.env := by rfl) (hpl : (backTo pos (starEach es X.env)).any (·.1) = false := by rfl) {W0 : WX} (tk : Takes X W0 := by first | assumption | exact takes0) : SP X Γ (.Call (.Name x p2) (e :: es) [] pos) (bA fs (cD F dfl)) rk := by
  obtain ⟨f, fd, dv, hm, G, kp, hb, hd, hfl⟩ := h.ex
  obtain ⟨t, p, q⟩ := ha.ex
  refine ⟨_, pe_callSD G (hr.mono hj) hgl hm kp hb hd (fun σ => passAt tk σ) p hdb he hpl, fun σ H Q env fp Z d E hF hQ => ?_⟩
  obtain ⟨ds, hds, hd'⟩ := Option.bind_eq_some_iff.mp hF
  refine q σ H _ env fp Z ds E hds fun vs H1 s1 h1 => ?_
  have E1 := E.same s1
  have hlk : ∀ {ks : List Kd} {vs : List V} {ds : List D}, HKs X.K H fp Z H1 ks vs ds → ks.length = ds.length := fun h => by
    induction h with
    | nil => rfl
    | cons _ _ ih => simp [ih]
  unfold cD at hd'
  split at hd'
  · rename_i d' os hFd
    cases hd'
    refine call_sem hf E1 ((h1.repsU hks).append (Reps.flats hfl)) (by rw [hlen, List.length_append, hlk h1]) hFd (fun H' s v hv => ?_) hrk
    refine hQ v H' (s1.trans s) ?_
    cases rk with
    | nw s' =>
      obtain ⟨fn, z1, z2, t, _⟩ := hv
      refine ⟨fn, fun b hb => ⟨?_, (z1 b hb).2⟩, z2, t⟩
      have := (z1 b hb).1
      rcases this with z | z
      · exact absurd (List.mem_append_left _ z) (z1 b hb).2
      · cases q' : H b with
        | none => rfl
        | some o => rw [s1 b o q'] at z; cases z
    | _ => exact hv
  · cases hd'
/-- a call that may raise, of arguments with effects -/
def iaC (n : IA) (F : DF) (dfl : List D) : IE := fun env => match n env with
  | some (.ok ds, e) => (match F (ds ++ dfl) with
    | some (.rt d, _) => some (.ok d, e)
    | some (.ex c d, _) => some (.ex c d, e)
    | none => none)
  | some (.ex c d, e) => some (.ex c d, e)
  | none => none
theorem si_callD (h : Df X.prog X.w X.K X.mg X.base xc j x ps Γp rk F dfl) (hr : Room kk X.A) (tk : Takes X W) (ha : SIA X xc W Γ (e :: es) n) (hlen : ∀ env ds e, n env = some (.ok ds, e) → Γp.length = ds.length + dfl.length) (hj : j ≤ kk := by decide) (hgl : Gl X x := by rfl) (hf : Γp.all Sh.isF = true := by rfl) (hrk : rk.cu = true := by rfl)
    (hdb : (x == ("__debug__" : Str)) = false := by decide) (he : starEach (e :: es) X.env = (false, eval e X.env) :: starEach es X.env := by rfl) (hpl : (backTo pos (starEach es X.env)).any (·.1) = false := by rfl) : SI X xc W Γ (.Call (.Name x p2) (e :: es) [] pos) (iaC n F dfl) rk := by
  obtain ⟨f, fd, dv, hm, G, kp, hb, hd, hfl⟩ := h.ex
  obtain ⟨t, p, q⟩ := ha.ex
  refine ⟨_, pe_callSD G (hr.mono hj) hgl hm kp hb hd (fun σ => passAt tk σ) p hdb he hpl, fun σ H Q env fp Z r env' E hF hQ => ?_⟩
  unfold iaC at hF
  split at hF
  · rename_i ds e1 h1
    refine q σ H _ env fp Z _ e1 E h1 fun H1 f1 E1 x1 vs hvs => ?_
    have hl : Γp.length = (ds ++ dfl).length := by rw [List.length_append]; exact hlen env ds e1 h1
    have rr := hvs.append (Reps.flats (G := hid (f1 ++ Z) H1) (K := X.K) hfl)
    split at hF
    · rename_i d os hFd
      cases hF
      exact call_sem hf E1 rr hl hFd (fun H' s v hv => hQ H' f1 (E1.same s) (x1.trans (Ext.same s)) v (hv.back x1)) hrk
    · rename_i cc d os hFd
      cases hF
      exact call_sem (rk := rk) hf E1 rr hl hFd (fun H' s cls od hx => hQ H' f1 (E1.same s) (x1.trans (Ext.same s)) cls od hx) hrk
    · cases hF
  · rename_i cc dd e1 h1
    cases hF
    exact q σ H _ env fp Z _ env' E h1 fun H1 f1 E1 x1 cls od hx => hQ H1 f1 E1 x1 cls od hx
  · cases hF
/-- a call whose first argument is an own slot -/
def oC (i : Nat) (fs : En → Option (List D)) (F : DF) (dfl : List D) : IE := fun env => match env[i]? with
  | some (some d0) => (match fs env with
    | some ds => (match F (d0 :: (ds ++ dfl)) with
      | some (.rt d, [o]) => some (.ok d, env.set i (some o))
      | some (.ex c d, [o]) => some (.ex c d, env.set i (some o))
      | _ => none)
    | none => none)
  | _ => none
theorem si_callO (i : Nat) {s : Sh} {y : Str} (h : Df X.prog X.w X.K X.mg X.base xc j x ps (s :: Γp) rk F dfl) (hr : Room kk X.A) (tk : Takes X W) (ha : SAs X Γ es fs ks) (hj : j ≤ kk := by decide) (hN : X.N[i]? = some y := by rfl) (hv : Vis X.env.scope y := by first | exact Or.inl rfl | exact Or.inr (Or.inl rfl) | exact Or.inr (Or.inr rfl)) (hs : Γ[i]? = some s := by rfl) (hns : s ≠ .fz := by decide) (hgl : Gl X x := by rfl) (hf : Γp.all Sh.isF = true := by rfl) (hrk : rk.cu = true := by rfl) (hks : ks.all Kd.cu = true := by rfl) (hlen : Γp.length = ks.length + dfl.length := by rfl)
    (hdb : (x == ("__debug__" : Str)) = false := by decide) (hdy : (y == ("__debug__" : Str)) = false := by decide) (hcy : (y == ("__classdict__" : Str)) = false := by decide) (he : starEach (.Name y p3 :: es) X.env = (false, eval (.Name y p3) X.env) :: starEach es X.env := by rfl) (hpl : (backTo pos (starEach es X.env)).any (·.1) = false := by rfl) : SI X xc W Γ (.Call (.Name x p2) (.Name y p3 :: es) [] pos) (oC i fs F dfl) rk := by
  obtain ⟨f, fd, dv, hm, G, kp, hb, hd, hfl⟩ := h.ex
  obtain ⟨t, p, q⟩ := ha.ex
  refine ⟨_, pe_callSD G (hr.mono hj) hgl hm kp hb hd (fun σ => passAt tk σ) (pa_cons (pe_var hN hv hdy hcy) p he) hdb he hpl, fun σ H Q env fp Z r env' E hF hQ => ?_⟩
  unfold oC at hF
  split at hF
  · rename_i d0 hd0
    split at hF
    · rename_i ds hds
      obtain ⟨fq0, t0, _⟩ := E.ex
      obtain ⟨v0, _, hv0, _⟩ := t0.get hd0 hs
      refine ⟨v0, hv0, q σ H _ env fp Z ds E hds fun vs H1 s1 h1 => ?_⟩
      have E1 := E.same s1
      obtain ⟨v, f2, rest, hv1, tr, n2, in2, hrest, hsp, cont⟩ := E1.own hs hd0
      rw [hv0] at hv1; cases hv1
      have hlk : ∀ {ks : List Kd} {vs : List V} {ds : List D}, HKs X.K H fp Z H1 ks vs ds → ks.length = ds.length := fun h => by
        induction h with
        | nil => rfl
        | cons _ _ ih => simp [ih]
      have key : ∀ out o, F (d0 :: (ds ++ dfl)) = some (out, [o]) → (∀ H' f', EOk X.K Γ (env.set i (some o)) σ H' f' Z → Ext H fp H' f' → match out with
          | .rt d => ∀ v, HKE X.K Γ (env.set i (some o)) σ rk H fp f' Z H' v d → Q v H'
          | .ex c d => ∀ cls od, XOk X.K xc f' Z c d cls od H' → W cls od σ H') → spD X.K xc (s :: Γp) rk F ((v0 :: vs) ++ dfl.map D.v) H1 Q (WE W σ) := fun out o hFd hQ => by
        have inf : ∀ b, b ∈ f2 ++ (rest ++ Z) → b ∈ fp ++ Z := fun b hb => by
          rcases List.mem_append.mp hb with z | z
          · exact List.mem_append_left _ (in2 b z)
          · rcases List.mem_append.mp z with z | z
            · exact List.mem_append_left _ (hrest b z).1
            · exact List.mem_append_right _ z
        have okA : EOk X.K (s :: Γp) ((d0 :: (ds ++ dfl)).map some) (((v0 :: vs) ++ dfl.map D.v).map some) H1 f2 (rest ++ Z) := by
          have rr := ((h1.repsU hks).append (Reps.flats (G := hid (fp ++ Z) H1) (K := X.K) hfl)).mono (hid_less inf)
          have lG : Γp.length = (vs ++ dfl.map D.v).length := by rw [rr.length, hlen, List.length_append, hlk h1]
          refine ⟨⟨f2, ?_, n2, fun b hb => hb⟩, fun b hb z => ?_, fun b hb => E1.ok b (inf b hb)⟩
          · have z := TrE.has (tr.mono (hid_less inf) fun _ _ _ h => h) (TrE.ofReps (H := H1) rr)
            rw [List.append_nil, ← lG, ← allF hf] at z
            exact z
          · rcases List.mem_append.mp z with z | z
            · exact (hrest b z).2 hb
            · exact E1.dj b (in2 b hb) z
        refine ⟨_, f2, rest ++ Z, out, [o], okA, hFd, fun H' fc Eo x => ?_⟩
        have flG : flt (s :: Γp) (s :: Γp) = [s] ∧ flt (s :: Γp) ((v0 :: vs) ++ dfl.map D.v) = [v0] := by
          have nil : ∀ {α : Type} (Γ : List Sh) (xs : List α), Γ.all Sh.isF = true → flt Γ xs = [] := fun {α} Γ => by
            induction Γ with
            | nil => intro xs _; cases xs <;> rfl
            | cons s0 Γ ih =>
              intro xs h
              have h' := Bool.and_eq_true_iff.mp (show (s0.isF && Γ.all Sh.isF) = true from h)
              have e : s0 = .fz := of_decide_eq_true h'.1
              subst e
              cases xs with
              | nil => rfl
              | cons x xs => exact ih xs h'.2
          cases s with
          | fz => exact absurd rfl hns
          | _ => exact ⟨by show _ :: flt Γp Γp = _; rw [nil Γp Γp hf], by show _ :: flt Γp _ = _; rw [nil Γp _ hf]⟩
        rw [flG.1, flG.2] at Eo
        rw [flG.1, flG.2]
        -- the slot's tree behind the call
        have treeOf : ∀ {Y : List Addr}, EOk X.K [s] [some o] [some v0] H' fc (Y ++ (rest ++ Z)) → (∃ fn, Tr X.K H' (hid (fc ++ (rest ++ (Y ++ Z))) H') s v0 o fn ∧ fn.Nodup ∧ ∀ b ∈ fn, b ∈ fc) := fun {Y} E2 => by
          obtain ⟨fq, t, n, i⟩ := E2.ex
          cases t with
          | has t r =>
            cases r
            rw [List.append_nil] at n i
            refine ⟨_, t.mono (hid_less fun b hb => ?_) fun _ _ _ h => h, n, i⟩
            rcases List.mem_append.mp hb with z | z
            · exact List.mem_append_left _ z
            · rcases List.mem_append.mp z with z | z
              · exact List.mem_append_right _ (List.mem_append_right _ (List.mem_append_left _ z))
              · rcases List.mem_append.mp z with z | z
                · exact List.mem_append_right _ (List.mem_append_left _ z)
                · exact List.mem_append_right _ (List.mem_append_right _ (List.mem_append_right _ z))
        have okc : ∀ b ∈ fc, ∃ o, H' b = some o ∧ NT o := fun b hb => Eo.ok b (List.mem_append_left _ hb)
        obtain ⟨E3, x3⟩ := cont H' fc [] o (fun _ z => nomatch z) x (treeOf (Y := []) Eo) okc
        have q := hQ H' (fc ++ rest) E3 ((Ext.same (fp := fp) s1).trans x3)
        have less : ∀ b ∈ (fc ++ rest) ++ Z, b ∈ fc ++ (rest ++ Z) := fun b hb => by rw [List.append_assoc] at hb; exact hb
        cases out with
        | ex c d => exact fun cls od hx => q cls od (hx.mono less)
        | rt d =>
          refine fun v hv => q v ?_
          cases rk with
          | u => exact Rep.mono (hid_less less) hv
          | t => cases hrk
          | vw s' =>
            cases s' with
            | fz =>
              obtain ⟨fv, z1, z2, t⟩ := hv
              cases t with
              | fz t => exact ⟨[], fun _ z => (nomatch z), List.nodup_nil, .fz (t.mono (hid_less less))⟩
            | _ => cases hrk
          | nw s' =>
            obtain ⟨fn, z1, z2, t, Eo2⟩ := hv
            have fr : ∀ b ∈ fn, b ∈ fp ∨ H b = none := fun b hb => (z1 b hb).1.elim (fun z => .inl (in2 b z)) fun z => .inr (by
              cases q' : H b with
              | none => rfl
              | some o => rw [s1 b o q'] at z; cases z)
            have E4 : EOk X.K Γ (env.set i (some o)) σ H' (fc ++ rest) (fn ++ Z) := by
              refine (cont H' fc fn o (fun b hb => ⟨(z1 b hb).1.symm, fun z => (z1 b hb).2 (List.mem_append_left _ z), t.there b hb⟩) x (treeOf (Y := fn) Eo2) okc).1
            refine ⟨fn, fun b hb => ⟨fr b hb, fun z => (z1 b hb).2 (less b z)⟩, z2, t.mono (hid_less fun b hb => ?_) fun _ _ _ h => h, E4⟩
            exact (List.mem_append.mp hb).elim (fun w => List.mem_append_left _ w) fun w => List.mem_append_right _ (less b w)
      split at hF
      · rename_i d o hFd
        cases hF
        exact key _ o hFd hQ
      · rename_i cc d o hFd
        cases hF
        exact key _ o hFd hQ
      · cases hF
    · cases hF
  · cases hF
end
end Py

set_option Elab.async false
set_option linter.all false
set_option maxRecDepth 100000
set_option maxHeartbeats 4000000
/-! Own layer: a def from its body; own lists changed. -/
namespace Py
open PySem PySem.Spec PyProof.Rows L2

/-! ### a def from its body -/
def sq : List (Option D) → Option (List D)
  | [] => some []
  | some d :: r => (sq r).map (d :: ·)
  | none :: _ => none
theorem sq_ok : ∀ {l : List (Option D)} {os : List D}, sq l = some os → l = os.map some
  | [], _, h => by cases h; rfl
  | some d :: r, os, h => by
    obtain ⟨t, ht, e⟩ := Option.map_eq_some_iff.mp (show (sq r).map (d :: ·) = some os from h)
    rw [← e, List.map_cons, ← sq_ok ht]
  | none :: _, _, h => by cases h
def mkF (Γp : List Sh) (nl : Nat) (fb : SE) : DF := fun ds => match fb (ds.map some ++ List.replicate nl none) with
  | some (.rt d, e) => (sq (flt Γp e)).map fun os => (.rt d, os)
  | some (.nx, e) => (sq (flt Γp e)).map fun os => (.rt .non, os)
  | some (.ex c d, e) => (sq (flt Γp e)).map fun os => (.ex c d, os)
  | _ => none
theorem TrE.pick {K : PySem.W.Frag} {H G : Hp} : ∀ {Γp Γl : List Sh} {env : En} {σ : L2.St} {fq : List Addr}, TrE K H G (Γp ++ Γl) env σ fq → ∃ fq', TrE K H G (flt Γp Γp) (flt Γp env) (flt Γp σ) fq' ∧ fq'.Sublist fq
  | [], _, _, _, _, _ => ⟨[], by unfold flt; exact .nil, List.nil_sublist _⟩
  | s :: Γp, Γl, _, _, _, h => by
    rw [List.cons_append] at h
    cases h with
    | skip r =>
      obtain ⟨fq', t, sub⟩ := TrE.pick r
      cases s with
      | fz => exact ⟨fq', t, sub⟩
      | _ => exact ⟨fq', .skip t, sub⟩
    | has tr r =>
      obtain ⟨fq', t, sub⟩ := TrE.pick r
      cases s with
      | fz => exact ⟨fq', t, sub.trans (List.sublist_append_right _ _)⟩
      | _ => exact ⟨_, .has tr t, List.Sublist.append (List.Sublist.refl _) sub⟩
theorem flt_eq {α : Type} : ∀ {Γp : List Sh} {xs ys : List α}, xs.length = ys.length → (∀ (i : Nat) (s : Sh), Γp[i]? = some s → s ≠ .fz → xs[i]? = ys[i]?) → flt Γp xs = flt Γp ys
  | [], xs, ys, _, _ => by cases xs <;> cases ys <;> rfl
  | s :: Γp, [], [], _, _ => rfl
  | s :: Γp, [], _ :: _, h, _ => by cases h
  | s :: Γp, _ :: _, [], h, _ => by cases h
  | s :: Γp, x :: xs, y :: ys, hl, h => by
    have ih := flt_eq (Γp := Γp) (xs := xs) (ys := ys) (by simpa using hl) fun i s g n => by
      have := h (i + 1) s (by simpa using g) n
      simpa using this
    cases s with
    | fz => exact ih
    | _ =>
      have e := h 0 _ rfl (fun z => nomatch z)
      have e' : x = y := by simpa using e
      show x :: flt Γp xs = y :: flt Γp ys
      rw [e', ih]
theorem flt_app {α : Type} : ∀ {Γp : List Sh} {xs ys : List α}, Γp.length = xs.length → flt Γp (xs ++ ys) = flt Γp xs
  | [], [], ys, _ => by cases ys <;> rfl
  | [], _ :: _, _, h => by cases h
  | _ :: _, [], _, h => by cases h
  | s :: Γp, x :: xs, ys, h => by
    have ih := flt_app (Γp := Γp) (xs := xs) (ys := ys) (by simpa using h)
    cases s with
    | fz => exact ih
    | _ => show x :: flt Γp (xs ++ ys) = x :: flt Γp xs; rw [ih]
theorem flt_map {α β : Type} {f : α → β} : ∀ {Γp : List Sh} {xs : List α}, flt Γp (xs.map f) = (flt Γp xs).map f
  | [], [] => rfl
  | [], _ :: _ => rfl
  | s :: Γp, [] => by cases s <;> rfl
  | s :: Γp, x :: xs => by
    have ih := flt_map (f := f) (Γp := Γp) (xs := xs)
    cases s with
    | fz => exact ih
    | _ => show f x :: flt Γp (xs.map f) = f x :: (flt Γp xs).map f; rw [ih]
theorem TrE.more {K : PySem.W.Frag} {H G : Hp} : ∀ {Γp Γl : List Sh} {env : En} {σ : L2.St} {fq : List Addr} {n : Nat}, Γl.length = n → TrE K H G Γp env σ fq → TrE K H G (Γp ++ Γl) (env ++ List.replicate n none) (σ ++ List.replicate n none) fq
  | _, [], _, _, _, n, h, .nil => by
    subst h
    exact .nil
  | _, s :: Γl, _, _, _, n, h, .nil => by
    subst h
    exact .skip (TrE.more (Γp := []) (Γl := Γl) rfl .nil)
  | _, _, _, _, _, n, h, .skip r => .skip (TrE.more h r)
  | _, _, _, _, _, n, h, .has t r => .has t (TrE.more h r)
section
variable {P : Program} {w : World} {K : PySem.W.Frag} {mg : Str → Option Value} {base : Heap} {xc : Nat → Addr} {Γp Γl : List Sh} {rk : Kd} {fb : SE}
theorem df_ok {name qual : Str} {params : Arguments} {body : List Stmt} {scope : Scope} {dvs : List V} {kws : List (Str × V)} {f : Addr} {fd : FuncData} {N ps : List Str} {k : Nat} (F : FunD K name qual params body scope dvs kws f fd) (S : FnScope N ps scope) (hp : Γp.length = ps.length) (hl : Γp.length + Γl.length = N.length) (hu : rk = .u ∨ ∀ ds e, fb ds ≠ some (.nx, e))
    (hb : ∀ (cdv : Value) (A : Around) (outer : List Env) (s : Shared) (H : Hp) (E : XK), Room k (A.deeper (envOfC qual scope s.heap.objs.size f cdv)) →
      SSs (cxOf (L2.CX P w) P w K mg base N qual scope f cdv A outer s H E) xc (fun cls d _ H => E cls d H) ps.length (Γp ++ Γl) rk body fb) : FnOk P w K mg base (L2.CX P w) (k + 1) f fd ps (spD K xc Γp rk (mkF Γp Γl.length fb)) := by
  refine F.ok S (fun vs H Q E h => by rw [spD_len h, hp]) (fun cdv A outer s H vs Q E hr h => ?_)
  obtain ⟨t, pt, sm⟩ := (hb cdv A outer s H E hr).ex
  refine ⟨t, pt, ?_⟩
  have hvl := spD_len h
  obtain ⟨ds, fp, Z, out, os, E0, hF, hQ⟩ := h
  have hst : L2.start N vs = vs.map some ++ List.replicate Γl.length none := by
    unfold L2.start
    rw [show N.length - vs.length = Γl.length by omega]
  obtain ⟨⟨fq, tr, nq, iq⟩, dj, ok⟩ := id E0
  have E1 : EOk K (Γp ++ Γl) (ds.map some ++ List.replicate Γl.length none) (L2.start N vs) H fp Z := by
    rw [hst]
    exact ⟨⟨fq, tr.more rfl, nq, iq⟩, dj, ok⟩
  have hds : Γp.length = ds.length := by
    have a := tr.lens
    have b1 : ds.length = vs.length := by simpa using a.1
    omega
  -- the own arguments behind the body
  have pick : ∀ {env' : En} {σ' : L2.St} {H' : Hp} {fp' Z' : List Addr} {os : List D}, EOk K (Γp ++ Γl) env' σ' H' fp' Z' → Prot ps.length (Γp ++ Γl) (L2.start N vs) σ' → sq (flt Γp env') = some os → EOk K (flt Γp Γp) (os.map some) ((flt Γp vs).map some) H' fp' Z' := fun {env' σ' H' fp' Z' os} E' pr hs => by
    obtain ⟨⟨fq, t, n, i⟩, dj, ok⟩ := E'
    obtain ⟨fq', t', sub⟩ := t.pick
    have e1 : flt Γp σ' = (flt Γp vs).map some := by
      have ls : σ'.length = (L2.start N vs).length := by
        rw [← t.lens.2, hst]
        simp
        omega
      rw [flt_eq ls fun i s g nf => pr i s (by rw [← hp]; exact (List.getElem?_eq_some_iff.mp g).1) (by rw [List.getElem?_append_left (List.getElem?_eq_some_iff.mp g).1]; exact g) nf, hst, flt_app (by simp [hvl]), flt_map]
    rw [e1, sq_ok hs] at t'
    exact ⟨⟨fq', t', sub.nodup n, fun b hb => i b (sub.subset hb)⟩, dj, ok⟩
  have core : ∀ fl env', fb (ds.map some ++ List.replicate Γl.length none) = some (fl, env') → (∀ σ' H' fp', EOk K (Γp ++ Γl) env' σ' H' fp' Z → Ext H fp H' fp' → Prot ps.length (Γp ++ Γl) (L2.start N vs) σ' → FlOk K xc (fun cls d _ H => E cls d H) (Γp ++ Γl) rk { nx := fun _ H' => Q .non H', rt := Q } H fp fl env' σ' H' fp' Z) → t { nx := fun _ H' => Q .non H', rt := Q } (L2.start N vs) H := fun fl env' he hk => sm _ _ H _ fp Z fl env' E1 he hk
  unfold mkF at hF
  split at hF
  · rename_i d e he
    obtain ⟨os', hos, z⟩ := Option.map_eq_some_iff.mp hF
    cases z
    refine core _ _ he fun σ' H' fp' E' x pr v hv => ?_
    refine hQ H' fp' (pick E' pr hos) x v ?_
    cases rk with
    | nw s' =>
      obtain ⟨fn, a, b, c, E2⟩ := hv
      exact ⟨fn, a, b, c, pick E2 pr hos⟩
    | _ => exact hv
  · rename_i e he
    obtain ⟨os', hos, z⟩ := Option.map_eq_some_iff.mp hF
    cases z
    refine core _ _ he fun σ' H' fp' E' x pr => ?_
    refine hQ H' fp' (pick E' pr hos) x _ ?_
    rcases hu with rfl | hu
    · exact Rep.non
    · exact absurd he (hu _ _)
  · rename_i cc d e he
    obtain ⟨os', hos, z⟩ := Option.map_eq_some_iff.mp hF
    cases z
    refine core _ _ he fun σ' H' fp' E' x pr cls od hx => ?_
    exact hQ H' fp' (pick E' pr hos) x cls od hx
  · cases hF
end

/-! ### own lists -/
section
variable {X : Cx} {xc : Nat → Addr} {W : WX} {np : Nat} {Γ : List Sh} {rk : Kd} {a b c e : Expr} {es : List Expr} {st : Stmt} {fa fb f : En → Option D} {m : IE} {ka kb k : Kd} {pos p2 p3 p4 : Pos}
theorem Tr.liFz {K : PySem.W.Frag} {H G : Hp} {v : V} {d : D} {fp : List Addr} (t : Tr K H G (.li .fz) v d fp) : ∃ a vs ds, v = .ref a ∧ d = .lst ds ∧ fp = [a] ∧ H a = some (.lst vs) ∧ Reps K G vs ds := by
  cases t with
  | li h r =>
    obtain ⟨e, q⟩ := Trs.fzs r
    subst e
    exact ⟨_, _, _, rfl, rfl, rfl, h, q⟩
/-- a list that is owned is written: the environment behind it -/
theorem EOk.lset {K : PySem.W.Frag} {Γ : List Sh} {env : En} {σ : L2.St} {H : Hp} {fp Z : List Addr} (E : EOk K Γ env σ H fp Z) {i : Nat} {ds : List D} (hs : Γ[i]? = some (.li .fz)) (hd : env[i]? = some (some (.lst ds))) :
    ∃ a vs, σ[i]? = some (some (.ref a)) ∧ H a = some (.lst vs) ∧ Reps K (hid (fp ++ Z) H) vs ds ∧ a ∈ fp ∧ ∀ us es, Reps K (hid (fp ++ Z) H) us es → ∃ fp', EOk K Γ (env.set i (some (.lst es))) σ (upd H a (.lst us)) fp' Z ∧ Ext H fp (upd H a (.lst us)) fp' ∧ ∀ b, b ∈ fp' ↔ b ∈ fp := by
  obtain ⟨v, f2, rest, hv, tr, n2, in2, hrest, hsp, cont⟩ := E.own hs hd
  obtain ⟨a, vs, ds', rfl, e, rfl, ha, r⟩ := tr.liFz
  cases e
  refine ⟨a, vs, hv, ha, r, in2 a (by simp), fun us es ru => ?_⟩
  have x : Ext H [a] (upd H a (.lst us)) [a] := ⟨fun b o h n => by rw [upd_ne (by simpa using n)]; exact h, fun b hb => .inl hb, fun b hb _ => by
    have : b = a := by simpa using hb
    subst this
    rw [upd_same]; simp⟩
  have sG : Sub (hid (fp ++ Z) H) (hid ([a] ++ (rest ++ ([] ++ Z))) (upd H a (.lst us))) := fun b o h => by
    obtain ⟨h1, h2⟩ := hid_some h
    have na : b ≠ a := fun z => h1 (by rw [z]; exact List.mem_append_left _ (in2 a (by simp)))
    rw [hid_of, upd_ne na]
    · exact h2
    · intro z
      rcases List.mem_append.mp z with z | z
      · exact na (by simpa using z)
      · rcases List.mem_append.mp z with z | z
        · exact h1 (List.mem_append_left _ (hrest b z).1)
        · exact h1 (List.mem_append_right _ z)
  obtain ⟨E2, x2⟩ := cont (upd H a (.lst us)) [a] [] (.lst es) (fun _ z => nomatch z) x ⟨[a], .li (fp := []) upd_same (Trs.ofFz (ru.mono sG)), by simp, fun b hb => hb⟩ fun b hb => by
    have : b = a := by simpa using hb
    subst this
    exact ⟨_, upd_same, nt_lst _⟩
  refine ⟨_, E2, x2, fun b => ⟨fun hb => ?_, fun hb => ?_⟩⟩
  · rcases List.mem_append.mp hb with z | z
    · exact in2 b z
    · exact (hrest b z).1
  · rcases hsp b hb with z | z
    · exact List.mem_append_left _ z
    · exact List.mem_append_right _ z
def onL (i : Nat) (g : List D → Option (List D)) (env : En) : Option En := match env[i]? with
  | some (some (.lst xs)) => (g xs).map fun ys => env.set i (some (.lst ys))
  | _ => none
def isL (i : Nat) (env : En) : Bool := match env[i]? with
  | some (some (.lst _)) => true
  | _ => false
theorem isL_ok {i : Nat} {env : En} (h : isL i env = true) : ∃ xs, env[i]? = some (some (.lst xs)) := by
  unfold isL at h
  split at h
  · rename_i xs q; exact ⟨xs, q⟩
  · cases h
theorem onL_ok {i : Nat} {g : List D → Option (List D)} {env env' : En} (h : onL i g env = some env') : ∃ xs ys, env[i]? = some (some (.lst xs)) ∧ g xs = some ys ∧ env' = env.set i (some (.lst ys)) := by
  unfold onL at h
  split at h
  · rename_i xs q
    obtain ⟨ys, hy, e⟩ := Option.map_eq_some_iff.mp h
    exact ⟨xs, ys, q, hy, e.symm⟩
  · cases h
/-- x.append(e) -/
def apL (d : D) (xs : List D) : Option (List D) := if xs.length < sizeLine then some (xs ++ [d]) else none
def qAp (i : Nat) (m : IE) : SE := fun env => if isL i env = true then qDo m (fun d => onL i (apL d)) env else none
theorem qs_append (i : Nat) {x : Str} (he : SI X xc W Γ e m .u) (hN : X.N[i]? = some x := by rfl) (hv : Vis X.env.scope x := by first | exact Or.inl rfl | exact Or.inr (Or.inl rfl) | exact Or.inr (Or.inr rfl)) (hs : Γ[i]? = some (.li .fz) := by rfl) (hd : (x == ("__debug__" : Str)) = false := by decide) (hcd : (x == ("__classdict__" : Str)) = false := by decide)
    (hsw : swapsWith (.Call (.Attribute (.Name x p2) "append" p3) [e] [] p4) none pos.line X.env = pure false := by rfl) (hse : starEach [e] X.env = (false, eval e X.env) :: starEach [] X.env := by rfl)
    (mk : ∀ (to : TE) (t : TA), PE X (.Name x p2) to → PA X [e] t → PE X (.Call (.Attribute (.Name x p2) "append" p3) [e] [] p4) (tBM X.K "list" rAppend to t) := by intro to t ho ha; exact L2.pe_bm PySem.F.plainAttrs_list PySem.F.slot_list_append PySem.F.type_list_append L2.mt_append ho ha) :
    SS X xc W np Γ rk (.Expr (.Call (.Attribute (.Name x p2) "append" p3) [e] [] p4) pos) (qAp i m) := by
  obtain ⟨t, p, q⟩ := he.ex
  refine ⟨_, ps_expr (mk _ _ (pe_var hN hv hd hcd) (pa_cons p pa_nil hse)) hsw, fun D σ H env fp Z fl env' E hf hQ => ?_⟩
  unfold qAp at hf
  split at hf
  · rename_i hl
    obtain ⟨xs0, hx0⟩ := isL_ok hl
    obtain ⟨a, vs, hσ, ha, r, ia, _⟩ := E.lset hs hx0
    refine ⟨_, hσ, .inl ⟨rfl, vs, .inl (.inl ha)⟩, ?_⟩
    unfold qDo at hf
    split at hf
    · rename_i d e1 h1
      obtain ⟨e2, h2, z⟩ := Option.map_eq_some_iff.mp hf
      cases z
      obtain ⟨xs, ys, hx, hy, rfl⟩ := onL_ok h2
      refine q σ H _ env fp Z _ e1 E h1 fun H1 f1 E1 x1 v hv => ?_
      obtain ⟨a', vs', hσ', ha', r', ia', cont⟩ := E1.lset hs hx
      rw [hσ] at hσ'; cases hσ'
      unfold apL at hy
      split at hy
      · rename_i hlen
        cases hy
        obtain ⟨fp', E2, x2, _⟩ := cont (vs' ++ [v]) (xs ++ [d]) (r'.append (.cons hv .nil))
        exact ⟨_, _, _, rfl, rfl, ha', by rw [r'.length]; exact hlen, hQ σ _ fp' E2 (x1.trans x2) Prot.refl⟩
      · cases hy
    · rename_i cc dd e1 h1
      cases hf
      exact q σ H _ env fp Z _ env' E h1 fun H1 f1 E1 x1 cls od hx => hQ σ H1 f1 E1 x1 Prot.refl cls od hx
    · cases hf
  · cases hf
/-- x[j] = e -/
def stL (j d : D) (xs : List D) : Option (List D) := match j with
  | .int k => (ixN xs.length k).map fun n => xs.set n d
  | _ => none
theorem qs_setItem (i : Nat) {x : Str} (he : SI X xc W Γ e m .u) (hi : SP X Γ b fb kb) (hN : X.N[i]? = some x := by rfl) (hv : Vis X.env.scope x := by first | exact Or.inl rfl | exact Or.inr (Or.inl rfl) | exact Or.inr (Or.inr rfl)) (hs : Γ[i]? = some (.li .fz) := by rfl) (hd : (x == ("__debug__" : Str)) = false := by decide) (hcd : (x == ("__classdict__" : Str)) = false := by decide)
    (ha : ∀ v, assign (.Subscript (.Name x p2) b p3) X.env v = (do
      let ov ← holding [v] (eval (.Name x p2) X.env)
      let iv ← holding [v, ov] (eval b X.env)
      standAt p3
      holding [v, ov, iv] (setItem ov iv v)
      release [v, ov, iv] []) := by intro _; rfl)
    (hsw : swapsWithSole [.Subscript (.Name x p2) b p3] e pos.line X.env = pure false := by rfl) (hw : swappedStores [.Subscript (.Name x p2) b p3] e X.env = pure none := by rfl)
    (h1 : (assignEach [.Subscript (.Name x p2) b p3] X.env).map (·.2) = [assign (.Subscript (.Name x p2) b p3) X.env] := by rfl) :
    SS X xc W np Γ rk (.Assign [.Subscript (.Name x p2) b p3] e pos) (qDo m fun d env => (fb env).bind fun j => onL i (stL j d) env) := by
  obtain ⟨t, p, q⟩ := he.ex
  obtain ⟨t2, pb, q2⟩ := hi.ex
  refine ⟨_, ps_asg p (pg_sub (pe_var hN hv hd hcd) pb set_list ha) hsw hw h1, fun D σ H env fp Z fl env' E hf hQ => ?_⟩
  unfold qDo at hf
  split at hf
  · rename_i d e1 h1
    obtain ⟨e2, h2, z⟩ := Option.map_eq_some_iff.mp hf
    cases z
    obtain ⟨j, hj, h2⟩ := Option.bind_eq_some_iff.mp h2
    obtain ⟨xs, ys, hx, hy, rfl⟩ := onL_ok h2
    refine q σ H _ env fp Z _ e1 E h1 fun H1 f1 E1 x1 v hv => ?_
    obtain ⟨a0, vs0, hσ0, _⟩ := E1.lset hs hx
    refine ⟨_, hσ0, q2 σ H1 _ e1 f1 Z j E1 hj fun w H2 s2 hw => ?_⟩
    have E2 := E1.same s2
    obtain ⟨a', vs', hσ', ha', r', ia', cont⟩ := E2.lset hs hx
    rw [hσ0] at hσ'; cases hσ'
    cases j with
    | int k =>
      obtain ⟨n, hn, e⟩ := Option.map_eq_some_iff.mp hy
      subst e
      cases hw.rep
      obtain ⟨fp', E3, x3, _⟩ := cont (vs'.set n v) (xs.set n d) (r'.set (Rep.mono (hid_mono s2) hv) n)
      exact ⟨_, _, _, n, rfl, rfl, ha', by rw [r'.length]; exact hn, hQ σ _ fp' E3 ((x1.trans (Ext.same s2)).trans x3) Prot.refl⟩
    | _ => cases hy
  · rename_i cc dd e1 h1
    cases hf
    exact q σ H _ env fp Z _ env' E h1 fun H1 f1 E1 x1 cls od hx => hQ σ H1 f1 E1 x1 Prot.refl cls od hx
  · cases hf
/-- x.pop() -/
def popE (i : Nat) : IE := fun env => match env[i]? with
  | some (some (.lst xs)) => (xs[xs.length - 1]?).map fun d => (.ok d, env.set i (some (.lst xs.dropLast)))
  | _ => none
theorem Reps.dropLast {K : PySem.W.Frag} {G : Hp} {vs : List V} {ds : List D} (r : Reps K G vs ds) : Reps K G vs.dropLast ds.dropLast := by
  rw [List.dropLast_eq_take, List.dropLast_eq_take, r.length]
  exact r.take _
theorem si_pop (i : Nat) {x : Str} (hN : X.N[i]? = some x := by rfl) (hv : Vis X.env.scope x := by first | exact Or.inl rfl | exact Or.inr (Or.inl rfl) | exact Or.inr (Or.inr rfl)) (hs : Γ[i]? = some (.li .fz) := by rfl) (hd : (x == ("__debug__" : Str)) = false := by decide) (hcd : (x == ("__classdict__" : Str)) = false := by decide)
    (mk : ∀ (to : TE), PE X (.Name x p2) to → PE X (.Call (.Attribute (.Name x p2) "pop" p3) [] [] p4) (tBM0 X.K "list" rPop to) := by intro to ho; exact L2.pe_bm0 PySem.F.plainAttrs_list PySem.F.slot_list_pop PySem.F.type_list_pop L2.mt_pop ho) :
    SI X xc W Γ (.Call (.Attribute (.Name x p2) "pop" p3) [] [] p4) (popE i) .u := by
  refine ⟨_, mk _ (pe_var hN hv hd hcd), fun σ H Q env fp Z r env' E hf hQ => ?_⟩
  unfold popE at hf
  split at hf
  · rename_i xs hx
    obtain ⟨d, hd', z⟩ := Option.map_eq_some_iff.mp hf
    cases z
    obtain ⟨a, vs, hσ, ha, r, ia, cont⟩ := E.lset hs hx
    obtain ⟨y, hy, ry⟩ := r.get hd'
    obtain ⟨fp', E2, x2, hm⟩ := cont vs.dropLast xs.dropLast r.dropLast
    refine ⟨_, hσ, .inl ⟨rfl, vs, .inl (.inl ha)⟩, _, _, y, rfl, rfl, ha, by rw [r.length]; exact hy, hQ _ fp' E2 x2 y ?_⟩
    exact Rep.mono x2.hid ry
  · cases hf
end
end Py

set_option Elab.async false
set_option linter.all false
set_option maxRecDepth 100000
set_option maxHeartbeats 4000000
/-! Own layer: what is walked, loops, comprehensions. -/
namespace Py
open PySem PySem.Spec PyProof.Rows L2

/-! ### what is walked -/
def iSeq (K : PySem.W.Frag) (tl : TE) : TI := fun σ H R => tl σ H fun x H1 => (∃ a, x = .ref a ∧ (∃ xs, SqL K H1 a xs) ∧ R (Itl K a) H1) ∨ (∃ a, x = .ref a ∧ (∃ xs, SqT K H1 a xs) ∧ R (Itt K a) H1) ∨ ∃ y, x = .str y ∧ R (Its y) H1
theorem pi_seq {X : Cx} {tg l : Expr} {tl : TE} (hl : PE X l tl) : PI X tg l (iSeq X.K tl) := by
  refine ⟨fun pins s σ H R I h => ?_⟩
  refine thn (hl.run pins s σ H _ I h) fun v s1 ⟨x, H1, I1, r1, q1⟩ => ?_
  rcases q1 with ⟨a, e, ⟨xs, hq⟩, q⟩ | ⟨a, e, ⟨xs, hq⟩, q⟩ | ⟨y, e, q⟩
  · subst e
    cases r1
    obtain ⟨its, rv, p, hz⟩ := I1.list hq
    refine wpAny_pyIter_list p.isList ?_
    refine ⟨s1.heap.objs.size, [s1.heap.objs.size], _, _, H1, rfl, I1.kept (t' := s1.toks) fun b o e => Heap.get?_push_of_some _ e, turn_list a _, ⟨_, Heap.get?_push_size _ rfl, rfl, rfl⟩, fun b hb => ?_, q⟩
    have e : b = s1.heap.objs.size := by simpa using hb
    subst e
    exact I1.fpOk (Nat.le_refl _) (I1.hok.fresh (Nat.le_refl _))
  · subst e
    cases r1
    obtain ⟨its, rv, p, hz⟩ := I1.tuple hq
    refine wpAny_pyIter_tuple (show s1.heap.IsTuple a its.toArray from p) ?_
    refine ⟨s1.heap.objs.size, [s1.heap.objs.size], _, _, H1, rfl, I1.kept (t' := s1.toks) fun b o e => Heap.get?_push_of_some _ e, turn_tuple a _, ⟨_, Heap.get?_push_size _ rfl, rfl, rfl⟩, fun b hb => ?_, q⟩
    have e : b = s1.heap.objs.size := by simpa using hb
    subst e
    exact I1.fpOk (Nat.le_refl _) (I1.hok.fresh (Nat.le_refl _))
  · subst e
    obtain ⟨t, rfl⟩ := r1
    cases ha : y.cps.all (· < 128)
    · exact wpAny_pyIter_wide ha (pi_one (tk := s1.toks) I1 _ (turn_str _ y t "str_iterator" (.inr rfl)) ⟨_, Heap.get?_push_size _ rfl, rfl, rfl⟩ q)
    · exact wpAny_pyIter_ascii ha (pi_one (tk := s1.toks) I1 _ (turn_str _ y t "str_ascii_iterator" (.inl rfl)) ⟨_, Heap.get?_push_size _ rfl, rfl, rfl⟩ q)
/-- an iterator that yields the data xs, as long as G1 stands; its items lie in G0 -/
structure Src (K : PySem.W.Frag) (J : It) (xs : List D) (G1 G0 : Hp) : Prop where
  go : ∀ (i : Nat) (H : Hp) (O : List Addr), Sub G1 H → Sub G0 (hid O H) → (∀ b ∈ O, ∃ o, H b = some o) → ∀ d, xs[i]? = some d → J.go i H ∧ ∀ x H', J.yld i H x H' → Sub H H' ∧ Rep K (hid O H') x d
  stop : ∀ (H : Hp), Sub G1 H → J.stop xs.length H
structure SPI (X : Cx) (Γ : List Sh) (tg iter : Expr) (f : En → Option (List D)) (pu : Bool) : Prop where
  ex : ∃ wi, PI X tg iter wi ∧ ∀ (σ : L2.St) (H : Hp) (R : It → Hp → Prop) (env : En) (fp Z : List Addr) (xs : List D), EOk X.K Γ env σ H fp Z → f env = some xs →
    (∀ J H' G1 G0, Sub H H' → Src X.K J xs G1 G0 → Sub G1 H' → Sub G0 (hid (fp ++ Z) H') → (pu = false → G1 = G0) → R J H') → wi σ H R
theorem src_list {K : PySem.W.Frag} {a : Addr} {vs : List V} {xs : List D} {G1 G0 : Hp} (h : SqL K G1 a vs) (r : Reps K G0 vs xs) : Src K (Itl K a) xs G1 G0 where
  go := fun i H O s1 s0 _ d hd => by
    obtain ⟨v, hv, q⟩ := r.get hd
    refine ⟨⟨_, v, s1.sqL h, hv⟩, fun x H' y => ?_⟩
    obtain ⟨e, y⟩ := y
    subst e
    have := y _ (s1.sqL h)
    rw [hv] at this; cases this
    exact ⟨Sub.refl, q.mono s0⟩
  stop := fun H s1 => ⟨_, s1.sqL h, by rw [r.length]; exact Nat.le_refl _⟩
theorem src_tup {K : PySem.W.Frag} {a : Addr} {vs : List V} {xs : List D} {G1 G0 : Hp} (h : SqT K G1 a vs) (r : Reps K G0 vs xs) : Src K (Itt K a) xs G1 G0 where
  go := fun i H O s1 s0 _ d hd => by
    obtain ⟨v, hv, q⟩ := r.get hd
    refine ⟨⟨_, v, s1.sqT h, hv⟩, fun x H' y => ?_⟩
    obtain ⟨e, y⟩ := y
    subst e
    have := y _ (s1.sqT h)
    rw [hv] at this; cases this
    exact ⟨Sub.refl, q.mono s0⟩
  stop := fun H s1 => ⟨_, s1.sqT h, by rw [r.length]; exact Nat.le_refl _⟩
def signs (x : Str) : List D := x.cps.toList.map fun c => .str ⟨#[c]⟩
theorem src_str {K : PySem.W.Frag} {x : Str} {G1 G0 : Hp} : Src K (Its x) (signs x) G1 G0 where
  go := fun i H O s1 s0 _ d hd => by
    unfold signs at hd
    rw [List.getElem?_map] at hd
    obtain ⟨c, hc, e⟩ := Option.map_eq_some_iff.mp hd
    subst e
    have hc' : x.cps[i]? = some c := by simpa using hc
    refine ⟨(Array.getElem?_eq_some_iff.mp hc').1, fun y H' z => ?_⟩
    obtain ⟨e, c', h1, rfl⟩ := z
    subst e
    rw [hc'] at h1; cases h1
    exact ⟨Sub.refl, .str _⟩
  stop := fun H s1 => by
    show x.cps.size ≤ (signs x).length
    unfold signs
    simp
def rngL (lo : Int) (n : Nat) : List D := (List.range n).map fun i => .int (lo + (i : Nat))
theorem src_rng {K : PySem.W.Frag} {lo : Int} {n : Nat} {G1 G0 : Hp} : Src K (Itr lo n) (rngL lo n) G1 G0 where
  go := fun i H O s1 s0 _ d hd => by
    unfold rngL at hd
    rw [List.getElem?_map] at hd
    obtain ⟨c, hc, e⟩ := Option.map_eq_some_iff.mp hd
    subst e
    have hi : i < n := by
      have := (List.getElem?_eq_some_iff.mp hc).1
      simpa using this
    have hci : c = i := by
      rw [List.getElem?_range hi] at hc
      exact (Option.some.inj hc).symm
    subst hci
    refine ⟨hi, fun y H' z => ?_⟩
    obtain ⟨e, rfl⟩ := z
    subst e
    exact ⟨Sub.refl, .int _⟩
  stop := fun H s1 => by
    show n ≤ (rngL lo n).length
    unfold rngL
    simp
/-- i, x for the items x -/
def enL : Nat → List D → List D
  | _, [] => []
  | i, x :: xs => .tup [.int (i : Nat), x] :: enL (i + 1) xs
theorem enL_len : ∀ (i : Nat) (xs : List D), (enL i xs).length = xs.length
  | _, [] => rfl
  | i, x :: xs => by show (enL (i + 1) xs).length + 1 = _; rw [enL_len]; rfl
theorem enL_get : ∀ (j : Nat) (xs : List D) (i : Nat) (d : D), (enL j xs)[i]? = some d → ∃ x, xs[i]? = some x ∧ d = .tup [.int ((j + i : Nat) : Nat), x]
  | _, [], i, d, h => by simp [enL] at h
  | j, x :: xs, 0, d, h => by
    have h' : some (D.tup [.int (j : Nat), x]) = some d := h
    cases h'
    exact ⟨x, rfl, rfl⟩
  | j, x :: xs, i + 1, d, h => by
    obtain ⟨y, h1, h2⟩ := enL_get (j + 1) xs i d h
    refine ⟨y, h1, ?_⟩
    rw [h2, show j + 1 + i = j + (i + 1) by omega]
theorem src_enum {K : PySem.W.Frag} {a : Addr} {vs : List V} {xs : List D} {G1 G0 : Hp} (h : SqL K G1 a vs) (r : Reps K G0 vs xs) : Src K (Ite K a) (enL 0 xs) G1 G0 where
  go := fun i H O s1 s0 ho d hd => by
    obtain ⟨x, hx, rfl⟩ := enL_get 0 xs i d hd
    obtain ⟨v, hv, q⟩ := r.get hx
    refine ⟨⟨_, v, s1.sqL h, hv⟩, fun y H' z => ?_⟩
    obtain ⟨T, w, rfl, hT, rfl, z⟩ := z
    have := z _ (s1.sqL h)
    rw [hv] at this; cases this
    have hTO : T ∉ O := fun z => by obtain ⟨o, e⟩ := ho T z; rw [hT] at e; cases e
    refine ⟨Sub.upd hT, ?_⟩
    rw [hid_upd hTO, Nat.zero_add]
    exact .tup (SqT.of upd_same) (.cons (.int _) (.cons ((q.mono s0).mono (Sub.upd (by rw [hid_of hTO]; exact hT))) .nil))
  stop := fun H s1 => ⟨_, s1.sqL h, by rw [enL_len, r.length]; exact Nat.le_refl _⟩
section
variable {X : Cx} {xc : Nat → Addr} {W : WX} {np : Nat} {Γ : List Sh} {rk : Kd} {a b c e tg iter elt : Expr} {es : List Expr} {st : Stmt} {sts : List Stmt} {fa fb f : En → Option D} {fs : En → Option (List D)} {m : IE} {ka kb k : Kd} {ks : List Kd} {pos p2 p3 p4 : Pos}
def asS : D → Option (List D)
  | .lst xs => some xs
  | .tup xs => some xs
  | .str x => some (signs x)
  | _ => none
def itD (f : En → Option D) (g : D → Option (List D)) : En → Option (List D) := fun env => (f env).bind g
/-- a list, a tuple, a text that nobody changes while it is walked -/
theorem i_seq (he : SP X Γ e f k) (ck : k.cu = true := by rfl) : SPI X Γ tg e (itD f asS) false := by
  obtain ⟨t, p, q⟩ := he.ex
  refine ⟨_, pi_seq p, fun σ H R env fp Z xs E hf hR => ?_⟩
  obtain ⟨d, hd, hx⟩ := Option.bind_eq_some_iff.mp hf
  refine q σ H _ env fp Z d E hd fun v H1 s1 h1 => ?_
  have h2 := h1.toU ck
  cases d with
  | lst ys =>
    cases hx
    cases h2 with
    | lst l r => exact .inl ⟨_, rfl, ⟨_, hid_sub.sqL l⟩, hR _ H1 _ _ s1 (src_list l r) hid_sub Sub.refl fun _ => rfl⟩
  | tup ys =>
    cases hx
    cases h2 with
    | tup l r => exact .inr (.inl ⟨_, rfl, ⟨_, hid_sub.sqT l⟩, hR _ H1 _ _ s1 (src_tup l r) hid_sub Sub.refl fun _ => rfl⟩)
  | str y =>
    cases hx
    cases h2
    exact .inr (.inr ⟨_, rfl, hR _ H1 (hid (fp ++ Z) H1) (hid (fp ++ Z) H1) s1 src_str hid_sub Sub.refl fun _ => rfl⟩)
  | _ => cases hx
/-- .. an own list, where nothing is changed meanwhile -/
theorem i_vw (he : SP X Γ e f (.vw (.li .fz))) : SPI X Γ tg e (itD f asS) true := by
  obtain ⟨t, p, q⟩ := he.ex
  refine ⟨_, pi_seq p, fun σ H R env fp Z xs E hf hR => ?_⟩
  obtain ⟨d, hd, hx⟩ := Option.bind_eq_some_iff.mp hf
  refine q σ H _ env fp Z d E hd fun v H1 s1 h1 => ?_
  obtain ⟨fv, i1, n1, t1⟩ := h1
  obtain ⟨a, vs, ds, rfl, rfl, rfl, ha, r⟩ := t1.liFz
  cases hx
  refine .inl ⟨_, rfl, ⟨_, SqL.of ha⟩, hR _ H1 _ _ s1 (src_list (G1 := H1) (SqL.of ha) r) Sub.refl Sub.refl fun z => nomatch z⟩
def rg1 : List D → Option (List D)
  | [.int j] => if j.natAbs < 4611686018427387904 then some (rngL 0 j.toNat) else none
  | _ => none
def rg2 : List D → Option (List D)
  | [.int i, .int j] => if i.natAbs < 4611686018427387904 ∧ j.natAbs < 4611686018427387904 then some (rngL i (j - i).toNat) else none
  | _ => none
def itA (f : En → Option (List D)) (g : List D → Option (List D)) : En → Option (List D) := fun env => (f env).bind g
theorem i_rng1 (ha : SAs X Γ [a] fs ks) (hm : X.mg "range" = none) (hg : Gl X "range" := by rfl) (hs : starEach [a] X.env = [(false, eval a X.env)] := by rfl) : SPI X Γ tg (.Call (.Name "range" p2) [a] [] pos) (itA fs rg1) false := by
  obtain ⟨t, p, q⟩ := ha.ex
  refine ⟨_, pi_range1 hg hm p hs, fun σ H R env fp Z xs E hf hR => ?_⟩
  obtain ⟨ds, hd, hx⟩ := Option.bind_eq_some_iff.mp hf
  refine q σ H _ env fp Z ds E hd fun vs H1 s1 h1 => ?_
  have r := h1.reps
  unfold rg1 at hx
  split at hx
  · split at hx
    · rename_i j c
      cases hx
      obtain ⟨x, rfl, h⟩ := reps1 r
      cases h
      exact ⟨_, rfl, by omega, by omega, hR _ H1 (hid (fp ++ Z) H1) (hid (fp ++ Z) H1) s1 src_rng hid_sub Sub.refl fun _ => rfl⟩
    · cases hx
  · cases hx
theorem i_rng2 (ha : SAs X Γ [a, b] fs ks) (hm : X.mg "range" = none) (hg : Gl X "range" := by rfl) (hs : starEach [a, b] X.env = [(false, eval a X.env), (false, eval b X.env)] := by rfl) (hs2 : starEach [b] X.env = [(false, eval b X.env)] := by rfl) : SPI X Γ tg (.Call (.Name "range" p2) [a, b] [] pos) (itA fs rg2) false := by
  obtain ⟨t, p, q⟩ := ha.ex
  refine ⟨_, pi_range2 hg hm p hs hs2, fun σ H R env fp Z xs E hf hR => ?_⟩
  obtain ⟨ds, hd, hx⟩ := Option.bind_eq_some_iff.mp hf
  refine q σ H _ env fp Z ds E hd fun vs H1 s1 h1 => ?_
  have r := h1.reps
  unfold rg2 at hx
  split at hx
  · split at hx
    · rename_i i j c
      cases hx
      obtain ⟨x, y, rfl, h, h'⟩ := reps2 r
      cases h
      cases h'
      exact ⟨_, _, rfl, ⟨by omega, by omega, by omega, by omega⟩, hR _ H1 (hid (fp ++ Z) H1) (hid (fp ++ Z) H1) s1 src_rng hid_sub Sub.refl fun _ => rfl⟩
    · cases hx
  · cases hx
def enD : D → Option (List D)
  | .lst xs => some (enL 0 xs)
  | _ => none
theorem i_enum {elts : List Expr} {kk : Nat} {tpos : Pos} (ha : SP X Γ a f k) (hm : X.mg "enumerate" = none) (ck : k.cu = true := by rfl) (hg : Gl X "enumerate" := by rfl) (hs : starEach [a] X.env = [(false, eval a X.env)] := by rfl) : SPI X Γ (.Tuple elts kk tpos) (.Call (.Name "enumerate" p2) [a] [] pos) (itD f enD) false := by
  obtain ⟨t, p, q⟩ := ha.ex
  refine ⟨_, pi_enum hg hm (pa_cons p pa_nil hs) hs, fun σ H R env fp Z xs E hf hR => ?_⟩
  obtain ⟨d, hd, hx⟩ := Option.bind_eq_some_iff.mp hf
  refine q σ H _ env fp Z d E hd fun v H1 s1 h1 => ?_
  have h2 := h1.toU ck
  cases d with
  | lst ys =>
    cases hx
    cases h2 with
    | lst l r => exact ⟨_, _, rfl, hid_sub.sqL l, hR _ H1 _ _ s1 (src_enum l r) hid_sub Sub.refl fun _ => rfl⟩
  | _ => cases hx

/-! ### targets -/
structure SG (X : Cx) (np : Nat) (Γ : List Sh) (tg : Expr) (as : D → En → Option En) (ix : List Nat) : Prop where
  ex : ∃ g, PG X tg g ∧ ∀ (v : V) (d : D) (σ : L2.St) (H : Hp) (env : En) (fp Z : List Addr) (env' : En) (Q : L2.St → Hp → Prop), EOk X.K Γ env σ H fp Z → Rep X.K (hid (fp ++ Z) H) v d → as d env = some env' →
    (∀ σ', EOk X.K Γ env' σ' H fp Z → Prot np Γ σ σ' → (∀ vs : List Nat, (∀ i ∈ ix, i ∈ vs) → wipe σ' vs = wipe σ vs) → Q σ' H) → g v σ H Q
theorem wipe_set {σ : L2.St} {i : Nat} {x : Option V} : ∀ {vs : List Nat}, i ∈ vs → wipe (σ.set i x) vs = wipe σ vs := by
  have comm : ∀ (vs : List Nat) (σ : L2.St) (x : Option V), wipe (σ.set i x) vs = (wipe σ vs).set i (if i ∈ vs then none else x) := by
    intro vs
    induction vs with
    | nil => intro σ x; rfl
    | cons v vs ih =>
      intro σ x
      show (wipe (σ.set i x) vs).set v none = ((wipe σ vs).set v none).set i _
      rw [ih]
      by_cases e : i = v
      · subst e
        rw [List.set_set, if_pos (by simp), List.set_set]
      · rw [List.set_comm _ _ e]
        simp [e]
  intro vs h
  rw [comm vs σ x, if_pos h]
  -- the slot is wiped already
  clear comm
  induction vs with
  | nil => cases h
  | cons v vs ih =>
    show ((wipe σ vs).set v none).set i none = (wipe σ vs).set v none
    by_cases e : i = v
    · subst e; rw [List.set_set]
    · have h' : i ∈ vs := (List.mem_cons.mp h).resolve_left e
      rw [← List.set_comm _ _ e, ih h']
theorem sg_name (i : Nat) {x : Str} (hN : X.N.Nodup) (hi : X.N[i]? = some x := by rfl) (hx : Loc X.env.scope x := by first | exact .inl rfl | exact .inr rfl) (hs : Γ[i]? = some .fz := by rfl) (hf : X.fn x = true ∨ X.env.scope.names.lookup x = some .local := by first | exact .inl rfl | exact .inr rfl) : SG X np Γ (.Name x pos) (Py.put i) [i] := by
  refine ⟨_, pg_name hN hi hx hf, fun v d σ H env fp Z env' Q E r ha hQ => ?_⟩
  obtain ⟨hl, rfl⟩ := put_ok ha
  exact hQ _ (E.setF hs r) (Prot.set (.inl hs)) fun vs h => wipe_set (h i (by simp))
structure SGs (X : Cx) (np : Nat) (Γ : List Sh) (ts : List Expr) (as : List D → En → Option En) (ix : List Nat) : Prop where
  ex : ∃ g, PGs X ts g ∧ ∀ (vs : List V) (ds : List D) (σ : L2.St) (H : Hp) (env : En) (fp Z : List Addr) (env' : En) (Q : L2.St → Hp → Prop), EOk X.K Γ env σ H fp Z → Reps X.K (hid (fp ++ Z) H) vs ds → as ds env = some env' →
    (∀ σ', EOk X.K Γ env' σ' H fp Z → Prot np Γ σ σ' → (∀ vs : List Nat, (∀ i ∈ ix, i ∈ vs) → wipe σ' vs = wipe σ vs) → Q σ' H) → g vs σ H Q
def g0 : List D → En → Option En
  | [], env => some env
  | _, _ => none
def g1 (as : D → En → Option En) (bs : List D → En → Option En) : List D → En → Option En
  | d :: ds, env => (as d env).bind (bs ds)
  | _, _ => none
theorem sg_nil : SGs X np Γ [] g0 [] := ⟨_, pgs_nil, fun vs ds σ H env fp Z env' Q E r ha hQ => by
  cases ds with
  | nil => cases ha; cases r; exact ⟨rfl, hQ σ E Prot.refl fun _ _ => rfl⟩
  | cons d ds => cases ha⟩
theorem sg_cons {as : D → En → Option En} {bs : List D → En → Option En} {ix iy : List Nat} (h1 : SG X np Γ e as ix) (h2 : SGs X np Γ es bs iy) (hs : (assignEach (e :: es) X.env).map (·.2) = assign e X.env :: (assignEach es X.env).map (·.2) := by rfl) : SGs X np Γ (e :: es) (g1 as bs) (ix ++ iy) := by
  obtain ⟨g, p, q⟩ := h1.ex
  obtain ⟨g', p', q'⟩ := h2.ex
  refine ⟨_, pgs_cons p p' hs, fun vs ds σ H env fp Z env' Q E r ha hQ => ?_⟩
  cases ds with
  | nil => cases ha
  | cons d ds =>
    obtain ⟨e1, h1, h2⟩ := Option.bind_eq_some_iff.mp (show (as d env).bind (bs ds) = some env' from ha)
    cases r with
    | cons r rr =>
      refine ⟨_, _, rfl, q _ d σ H env fp Z e1 _ E r h1 fun σ1 E1 r1 w1 => ?_⟩
      refine q' _ ds σ1 H e1 fp Z env' Q E1 rr h2 fun σ2 E2 r2 w2 => hQ σ2 E2 (r1.trans r2) fun vs h => ?_
      rw [w2 vs fun i hi => h i (List.mem_append_right _ hi), w1 vs fun i hi => h i (List.mem_append_left _ hi)]
def gT (bs : List D → En → Option En) : D → En → Option En
  | .tup ds, env => bs ds env
  | _, _ => none
theorem sg_tup {bs : List D → En → Option En} {iy : List Nat} {kk n : Nat} (hc : X.calm = true) (h : SGs X np Γ es bs iy) (hlen : ∀ ds env env', bs ds env = some env' → ds.length = n) (hn : (assignEach es X.env).length = n := by rfl) (hst : (assignEach es X.env).findIdx? (·.1) = none := by rfl) : SG X np Γ (.Tuple es kk pos) (gT bs) iy := by
  obtain ⟨g, p, q⟩ := h.ex
  refine ⟨_, pg_tup hc p hn hst, fun v d σ H env fp Z env' Q E r ha hQ => ?_⟩
  cases d with
  | tup ds =>
    cases r with
    | tup l r => exact ⟨_, _, rfl, hid_sub.sqT l, by rw [r.length]; exact hlen ds env env' ha, q _ ds σ H env fp Z env' Q E r ha hQ⟩
  | _ => cases ha
theorem g1_len {as : D → En → Option En} {bs : List D → En → Option En} {n : Nat} (h : ∀ ds env env', bs ds env = some env' → ds.length = n) : ∀ ds env env', g1 as bs ds env = some env' → ds.length = n + 1 := fun ds env env' z => by
  cases ds with
  | nil => cases z
  | cons d ds =>
    obtain ⟨e1, _, h2⟩ := Option.bind_eq_some_iff.mp (show (as d env).bind (bs ds) = some env' from z)
    rw [List.length_cons, h ds e1 env' h2]
theorem g0_len : ∀ ds env env', g0 ds env = some env' → ds.length = 0 := fun ds env env' z => by
  cases ds with
  | nil => rfl
  | cons d ds => cases z
/-- a, b = e -/
theorem qs_tgt {as : D → En → Option En} {ix : List Nat} (he : SI X xc W Γ e m .u) (hg : SG X np Γ tg as ix) (hs : swapsWithSole [tg] e pos.line X.env = pure false := by rfl) (hw : swappedStores [tg] e X.env = pure none := by rfl)
    (h1 : (assignEach [tg] X.env).map (·.2) = [assign tg X.env] := by rfl) : SS X xc W np Γ rk (.Assign [tg] e pos) (qDo m as) := by
  obtain ⟨t, p, q⟩ := he.ex
  obtain ⟨g, pg, qg⟩ := hg.ex
  refine ⟨_, ps_asg p pg hs hw h1, fun D σ H env fp Z fl env' E hf hQ => ?_⟩
  unfold qDo at hf
  split at hf
  · rename_i d e1 h1
    obtain ⟨e2, h2, z⟩ := Option.map_eq_some_iff.mp hf
    cases z
    exact q σ H _ env fp Z _ e1 E h1 fun H1 f1 E1 x1 v hv => qg v d σ H1 e1 f1 Z env' _ E1 hv h2 fun σ2 E2 r2 _ => hQ σ2 H1 f1 E2 x1 r2
  · rename_i cc dd e1 h1
    cases hf
    exact q σ H _ env fp Z _ env' E h1 fun H1 f1 E1 x1 cls od hx => hQ σ H1 f1 E1 x1 Prot.refl cls od hx
  · cases hf

/-! ### for -/
def forL (as : D → En → Option En) (b : SE) : List D → SE
  | [], env => some (.nx, env)
  | d :: ds, env => match as d env with
    | none => none
    | some e1 => match b e1 with
      | some (.nx, e2) => forL as b ds e2
      | some (.ct, e2) => forL as b ds e2
      | some (.bk, e2) => some (.nx, e2)
      | r => r
def qFor (it : En → Option (List D)) (as : D → En → Option En) (b : SE) : SE := fun env => match it env with
  | some ds => forL as b ds env
  | none => none
theorem qs_for {as : D → En → Option En} {ix : List Nat} {it : En → Option (List D)} {g : SE} (hi : SPI X Γ tg iter it false) (hg : SG X np Γ tg as ix) (hb : SSs X xc W np Γ rk sts g) (hc : X.calm = true := by rfl) (hp : PassesOwn (model X.prog X.w) X.A X.env X.xe := by first | assumption | exact passes_of rfl | exact PassesOwn.never) (hs : ∀ x, foldedSetIterable iter X.env x = pure x := by intro _; rfl) :
    SS X xc W np Γ rk (.For tg iter sts [] pos) (qFor it as g) := by
  obtain ⟨wi, pi, qi⟩ := hi.ex
  obtain ⟨gg, pg, qg⟩ := hg.ex
  obtain ⟨t, pb, qb⟩ := hb.ex
  refine ⟨_, ps_for hp hc pi pg pb hs, fun D σ H env fp Z fl env' E hf hQ => ?_⟩
  unfold qFor at hf
  split at hf
  · rename_i xs hxs
    refine qi σ H _ env fp Z xs E hxs fun J H1 G1 G0 s1 src sG1 sG0 hG => ?_
    have hG := hG rfl
    subst hG
    have E1 := E.same s1
    have x1 := Ext.same (fp := fp) s1
    refine ⟨fun i m σ' H' => m = xs.length - i ∧ i ≤ xs.length ∧ ∃ e1 f1, EOk X.K Γ e1 σ' H' f1 Z ∧ Ext H fp H' f1 ∧ Prot np Γ σ σ' ∧ Sub G1 (hid (f1 ++ Z) H') ∧ forL as g (xs.drop i) e1 = some (fl, env'),
      ⟨xs.length, rfl, Nat.zero_le _, env, fp, E1, x1, Prot.refl, sG0, by rw [List.drop_zero]; exact hf⟩, ?_⟩
    rintro i m σ' H' ⟨rfl, hi, e1, f1, E2, x2, r2, s2, hl⟩
    by_cases hlt : i < xs.length
    · have hd : xs.drop i = xs[i] :: xs.drop (i + 1) := List.drop_eq_getElem_cons hlt
      rw [hd] at hl
      have hdi : xs[i]? = some xs[i] := List.getElem?_eq_getElem hlt
      obtain ⟨g1, y1⟩ := src.go i H' (f1 ++ Z) (s2.trans hid_sub) s2 (fun b hb => let ⟨o, h, _⟩ := E2.ok b hb; ⟨o, h⟩) _ hdi
      refine .inr ⟨g1, fun σ'' H'' => ∃ e3 f3, EOk X.K Γ e3 σ'' H'' f3 Z ∧ Ext H fp H'' f3 ∧ Prot np Γ σ σ'' ∧ Sub G1 (hid (f3 ++ Z) H'') ∧ forL as g (xs.drop (i + 1)) e3 = some (fl, env'), fun σ'' H'' ⟨e3, f3, a1, a2, a3, a4, a5⟩ => ⟨xs.length - (i + 1), by omega, rfl, hlt, e3, f3, a1, a2, a3, a4, a5⟩, fun x H2 hy => ?_⟩
      obtain ⟨s3, rx⟩ := y1 x H2 hy
      have E3 := E2.same s3
      unfold forL at hl
      split at hl
      · cases hl
      · rename_i e2 he2
        refine qg x _ σ' H2 e1 f1 Z e2 _ E3 rx he2 fun σ2 E4 r4 _ => ?_
        have x3 : Ext H fp H2 f1 := x2.trans (Ext.same s3)
        have s4 : Sub G1 (hid (f1 ++ Z) H2) := s2.trans (hid_mono s3)
        have next : ∀ {e4 : En}, forL as g (xs.drop (i + 1)) e4 = some (fl, env') → ∀ σ' H' fp', EOk X.K Γ e4 σ' H' fp' Z → Ext H2 f1 H' fp' → Prot np Γ σ2 σ' → ∃ e3 f3, EOk X.K Γ e3 σ' H' f3 Z ∧ Ext H fp H' f3 ∧ Prot np Γ σ σ' ∧ Sub G1 (hid (f3 ++ Z) H') ∧ forL as g (xs.drop (i + 1)) e3 = some (fl, env') := fun {e4} h4 σ5 H5 f5 E5 x5 r5 =>
          ⟨e4, f5, E5, x3.trans x5, (r2.trans r4).trans r5, s4.trans x5.hid, h4⟩
        cases hg2 : g e2 with
        | none => rw [hg2] at hl; cases hl
        | some q =>
          obtain ⟨fl2, e4⟩ := q
          rw [hg2] at hl
          refine qb _ σ2 H2 e2 f1 Z fl2 e4 E4 hg2 fun σ5 H5 f5 E5 x5 r5 => ?_
          cases fl2 with
          | nx => exact next hl σ5 H5 f5 E5 x5 r5
          | ct => exact next hl σ5 H5 f5 E5 x5 r5
          | bk =>
            cases hl
            exact hQ σ5 H5 f5 E5 (x3.trans x5) ((r2.trans r4).trans r5)
          | rt d =>
            cases hl
            have z := hQ σ5 H5 f5 E5 (x3.trans x5) ((r2.trans r4).trans r5)
            exact fun v hv => z v (hv.back x3)
          | ex c d =>
            cases hl
            exact hQ σ5 H5 f5 E5 (x3.trans x5) ((r2.trans r4).trans r5)
    · have e : i = xs.length := by omega
      subst e
      rw [List.drop_length] at hl
      cases hl
      exact .inl ⟨src.stop H' (s2.trans hid_sub), hQ σ' H' f1 E2 x2 r2⟩
  · cases hf

/-! ### while -/
def whN (t : En → Option Bool) (b : SE) : Nat → SE
  | 0, _ => none
  | n + 1, env => match t env with
    | some false => some (.nx, env)
    | some true => (match b env with
      | some (.nx, e) => whN t b n e
      | some (.ct, e) => whN t b n e
      | some (.bk, e) => some (.nx, e)
      | r => r)
    | none => none
open Classical in
/-- a while that comes to an end -/
noncomputable def qWh (t : En → Option Bool) (b : SE) : SE := fun env => if h : ∃ n r, whN t b n env = some r then some (Classical.choose (Classical.choose_spec h)) else none
theorem whN_more {t : En → Option Bool} {b : SE} : ∀ {n m : Nat} {env : En} {r : Fl × En}, whN t b n env = some r → n ≤ m → whN t b m env = some r
  | 0, _, _, _, h, _ => by cases h
  | n + 1, 0, _, _, _, h => by omega
  | n + 1, m + 1, env, r, h, hm => by
    unfold whN at h ⊢
    split at h
    · exact h
    · rename_i h1
      cases hb : b env with
      | none => rw [hb] at h; cases h
      | some q =>
        obtain ⟨fl, e⟩ := q
        rw [hb] at h
        cases fl with
        | nx => exact whN_more (n := n) h (by omega)
        | ct => exact whN_more (n := n) h (by omega)
        | _ => exact h
    · cases h
theorem qWh_of {t : En → Option Bool} {b : SE} {n : Nat} {env : En} {r : Fl × En} (h : whN t b n env = some r) : qWh t b env = some r := by
  unfold qWh
  have ex : ∃ n r, whN t b n env = some r := ⟨n, r, h⟩
  rw [dif_pos ex]
  have z := Classical.choose_spec (Classical.choose_spec ex)
  have h1 := whN_more h (Nat.le_max_left n (Classical.choose ex))
  have h2 := whN_more z (Nat.le_max_right n (Classical.choose ex))
  rw [h1] at h2
  exact h2.symm
theorem qWh_ok {t : En → Option Bool} {b : SE} {env : En} {r : Fl × En} (h : qWh t b env = some r) : ∃ n, whN t b n env = some r := by
  unfold qWh at h
  split at h
  · rename_i ex
    cases h
    exact ⟨_, Classical.choose_spec (Classical.choose_spec ex)⟩
  · cases h
theorem qs_while {tt : En → Option Bool} {g : SE} (ht : ST X Γ c tt) (hb : SSs X xc W np Γ rk sts g) (hp : PassesOwn (model X.prog X.w) X.A X.env X.xe := by first | assumption | exact passes_of rfl | exact PassesOwn.never) : SS X xc W np Γ rk (.While c sts [] pos) (qWh tt g) := by
  obtain ⟨t, pt, qt⟩ := ht.ex
  obtain ⟨t2, pb, qb⟩ := hb.ex
  refine ⟨_, ps_while hp pt pb, fun D σ H env fp Z fl env' E hf hQ => ?_⟩
  obtain ⟨n, hn⟩ := qWh_ok hf
  refine ⟨fun m σ' H' => ∃ e1 f1, EOk X.K Γ e1 σ' H' f1 Z ∧ Ext H fp H' f1 ∧ Prot np Γ σ σ' ∧ whN tt g m e1 = some (fl, env'), ⟨n, env, fp, E, Ext.refl, Prot.refl, hn⟩, ?_⟩
  rintro m σ' H' ⟨e1, f1, E1, x1, r1, hw⟩
  cases m with
  | zero => cases hw
  | succ m =>
    unfold whN at hw
    split at hw
    · rename_i h1
      cases hw
      refine qt σ' H' _ _ f1 Z false E1 h1 fun H2 s2 => ?_
      rw [if_neg Bool.false_ne_true]
      exact hQ σ' H2 f1 (E1.same s2) (x1.trans (Ext.same s2)) r1
    · rename_i h1
      refine qt σ' H' _ e1 f1 Z true E1 h1 fun H2 s2 => ?_
      rw [if_pos rfl]
      refine ⟨fun σ'' H'' => ∃ e3 f3, EOk X.K Γ e3 σ'' H'' f3 Z ∧ Ext H fp H'' f3 ∧ Prot np Γ σ σ'' ∧ whN tt g m e3 = some (fl, env'), fun σ'' H'' ⟨e3, f3, a1, a2, a3, a4⟩ => ⟨m, by omega, e3, f3, a1, a2, a3, a4⟩, ?_⟩
      have x2 : Ext H fp H2 f1 := x1.trans (Ext.same s2)
      cases hg : g e1 with
      | none => rw [hg] at hw; cases hw
      | some q =>
        obtain ⟨fl2, e4⟩ := q
        rw [hg] at hw
        refine qb _ σ' H2 e1 f1 Z fl2 e4 (E1.same s2) hg fun σ5 H5 f5 E5 x5 r5 => ?_
        cases fl2 with
        | nx => exact ⟨e4, f5, E5, x2.trans x5, r1.trans r5, hw⟩
        | ct => exact ⟨e4, f5, E5, x2.trans x5, r1.trans r5, hw⟩
        | bk => cases hw; exact hQ σ5 H5 f5 E5 (x2.trans x5) (r1.trans r5)
        | rt d =>
          cases hw
          have z := hQ σ5 H5 f5 E5 (x2.trans x5) (r1.trans r5)
          exact fun v hv => z v (hv.back x2)
        | ex c d => cases hw; exact hQ σ5 H5 f5 E5 (x2.trans x5) (r1.trans r5)
    · cases hw
end
end Py

set_option Elab.async false
set_option linter.all false
set_option maxRecDepth 100000
set_option maxHeartbeats 4000000
/-! Own layer: list comprehensions. -/
namespace Py
open PySem PySem.Spec PyProof.Rows L2

/-! ### readings that hang on K alone -/
theorem weakPE {X : Cx} {e : Expr} {t t' : TE} (h : PE X e t) (i : ∀ σ H Q, t' σ H Q → t σ H Q) : PE X e t' := ⟨fun pins s σ H Q I q => h.run pins s σ H Q I (i σ H Q q)⟩
theorem weakPT {X : Cx} {e : Expr} {t t' : TT} (h : PT X e t) (i : ∀ σ H Q, t' σ H Q → t σ H Q) : PT X e t' := ⟨fun pins s σ H Q I q => h.run pins s σ H Q I (i σ H Q q)⟩
theorem weakPTs {X : Cx} {e : List Expr} {t t' : TT} (h : PTs X e t) (i : ∀ σ H Q, t' σ H Q → t σ H Q) : PTs X e t' := ⟨fun pins s σ H Q I q => h.run pins s σ H Q I (i σ H Q q)⟩
theorem weakPG {X : Cx} {e : Expr} {t t' : TG} (h : PG X e t) (i : ∀ v σ H Q, t' v σ H Q → t v σ H Q) : PG X e t' := ⟨fun pins s σ H v u Q I r q => h.run pins s σ H v u Q I r (i v σ H Q q)⟩
def tcan (K : PySem.W.Frag) (Γ : List Sh) (f : En → Option D) (k : Kd) : TE := fun σ H Q => ∃ env fp Z d, EOk K Γ env σ H fp Z ∧ f env = some d ∧ ∀ v H', Sub H H' → HK K k H fp Z H' v d → Q v H'
def ttcan (K : PySem.W.Frag) (Γ : List Sh) (f : En → Option Bool) : TT := fun σ H Q => ∃ env fp Z b, EOk K Γ env σ H fp Z ∧ f env = some b ∧ ∀ H', Sub H H' → Q b H'
def tgcan (K : PySem.W.Frag) (Γ : List Sh) (as : D → En → Option En) (ix : List Nat) : TG := fun v σ H Q => ∃ d env fp Z env', EOk K Γ env σ H fp Z ∧ Rep K (hid (fp ++ Z) H) v d ∧ as d env = some env' ∧
  ∀ σ', EOk K Γ env' σ' H fp Z → (∀ vs : List Nat, (∀ i ∈ ix, i ∈ vs) → wipe σ' vs = wipe σ vs) → Q σ' H
def tecan (K : PySem.W.Frag) (xc : Nat → Addr) (W : WX) (Γ : List Sh) (f : IE) (k : Kd) : TE := fun σ H Q => ∃ env fp Z r env', EOk K Γ env σ H fp Z ∧ f env = some (r, env') ∧ ∀ H' fp', EOk K Γ env' σ H' fp' Z → Ext H fp H' fp' → match r with
  | .ok d => ∀ v, HKE K Γ env' σ k H fp fp' Z H' v d → Q v H'
  | .ex c d => ∀ cls od, XOk K xc fp' Z c d cls od H' → W cls od σ H'
/-- the tests of a comprehension -/
structure STl (X : Cx) (Γ : List Sh) (ifs : List Expr) (f : En → Option Bool) : Prop where
  ex : ∃ t, PTs X ifs t ∧ ∀ (σ : L2.St) (H : Hp) (Q : Bool → Hp → Prop) (env : En) (fp Z : List Addr) (b : Bool), EOk X.K Γ env σ H fp Z → f env = some b → (∀ H', Sub H H' → Q b H') → t σ H Q
def tyes : En → Option Bool := fun _ => some true
theorem stl_nil {X : Cx} {Γ : List Sh} : STl X Γ [] tyes := ⟨_, pts_nil, fun σ H Q env fp Z b E hf hQ => by cases hf; exact hQ H Sub.refl⟩
theorem stl_one {X : Cx} {Γ : List Sh} {c : Expr} {f : En → Option Bool} (h : ST X Γ c f) : STl X Γ [c] f := by
  obtain ⟨t, p, q⟩ := h.ex
  exact ⟨t, pts_one p, q⟩
theorem SP.can {X : Cx} {Γ : List Sh} {e : Expr} {f : En → Option D} {k : Kd} (h : SP X Γ e f k) : PE X e (tcan X.K Γ f k) := by
  obtain ⟨t, p, q⟩ := h.ex
  exact weakPE p fun σ H Q ⟨env, fp, Z, d, E, hf, hQ⟩ => q σ H Q env fp Z d E hf hQ
theorem STl.can {X : Cx} {Γ : List Sh} {e : List Expr} {f : En → Option Bool} (h : STl X Γ e f) : PTs X e (ttcan X.K Γ f) := by
  obtain ⟨t, p, q⟩ := h.ex
  exact weakPTs p fun σ H Q ⟨env, fp, Z, d, E, hf, hQ⟩ => q σ H Q env fp Z d E hf hQ
theorem SG.can {X : Cx} {np : Nat} {Γ : List Sh} {e : Expr} {as : D → En → Option En} {ix : List Nat} (h : SG X np Γ e as ix) : PG X e (tgcan X.K Γ as ix) := by
  obtain ⟨t, p, q⟩ := h.ex
  exact weakPG p fun v σ H Q ⟨d, env, fp, Z, env', E, r, ha, hQ⟩ => q v d σ H env fp Z env' Q E r ha fun σ' E' _ w => hQ σ' E' w
theorem SI.can {X : Cx} {xc : Nat → Addr} {W : WX} {Γ : List Sh} {e : Expr} {f : IE} {k : Kd} (h : SI X xc W Γ e f k) : PE X e (tecan X.K xc W Γ f k) := by
  obtain ⟨t, p, q⟩ := h.ex
  exact weakPE p fun σ H Q ⟨env, fp, Z, r, env', E, hf, hQ⟩ => q σ H Q env fp Z r env' E hf hQ

/-! ### what is made -/
def wipeE (own : List Nat) (env : En) : En := own.foldr (fun i e => e.set i none) env
theorem EOk.wipe {K : PySem.W.Frag} {Γ : List Sh} {env : En} {σ : L2.St} {H : Hp} {fp Z : List Addr} (E : EOk K Γ env σ H fp Z) : ∀ {own : List Nat}, (∀ i ∈ own, ∃ s, Γ[i]? = some s) → EOk K Γ (wipeE own env) (L2.wipe σ own) H fp Z
  | [], _ => E
  | i :: own, h => by
    obtain ⟨s, hs⟩ := h i (by simp)
    exact (EOk.wipe E (own := own) fun j hj => h j (by simp [hj])).setN hs
theorem EOk.hset {K : PySem.W.Frag} {Γ : List Sh} {env : En} {σ : L2.St} {H : Hp} {fp Z : List Addr} {D : Addr} {o : HO} (E : EOk K Γ env σ H fp Z) (hD : D ∈ Z) (ho : NT o) : EOk K Γ env σ (upd H D o) fp Z := by
  obtain ⟨⟨fq, t, n, i⟩, dj, ok⟩ := E
  refine ⟨⟨fq, t.mono (by rw [hid_updin (List.mem_append_right _ hD)]; exact Sub.refl) fun b hb o h => ?_, n, i⟩, dj, fun b hb => ?_⟩
  · rw [upd_ne (show b ≠ D from fun z => dj b (i b hb) (by rw [z]; exact hD))]; exact h
  · by_cases e : b = D
    · subst e; exact ⟨o, upd_same, ho⟩
    · obtain ⟨u, h, p⟩ := ok b hb
      exact ⟨u, by rw [upd_ne e]; exact h, p⟩
def lcL (as : D → En → Option En) (tt : En → Option Bool) (fe : En → Option D) (env : En) : List D → Option (List D)
  | [] => some []
  | d :: ds => (as d env).bind fun e1 => (tt e1).bind fun b => if b = true then (fe e1).bind fun y => (lcL as tt fe env ds).map (y :: ·) else lcL as tt fe env ds
def lcF (own : List Nat) (it : En → Option (List D)) (as : D → En → Option En) (tt : En → Option Bool) (fe : En → Option D) : En → Option D := fun env => (it env).bind fun xs => (lcL as tt fe (wipeE own env) xs).bind lstD
section
variable {X : Cx} {xc : Nat → Addr} {W : WX} {np : Nat} {Γ : List Sh} {rk : Kd} {tg iter elt : Expr} {ifs : List Expr} {scope : Scope} {own : List (Str × Nat)} {pos p2 : Pos} {it : En → Option (List D)} {as : D → En → Option En} {tt : En → Option Bool} {fe : En → Option D} {ge : IE} {ke k : Kd} {ix : List Nat} {pu : Bool}
abbrev BlkA (X : Cx) (scope : Scope) (p : Cx → Prop) : Prop := ∀ (s : Shared) (H : Hp) (C : Addr) (cl : List (Str × Addr)) (fp : List Addr), p (X.blk s H scope (compEnvC scope cl C X.env) fp)
theorem lc_sem {wi : TI} (hq : ∀ (σ : L2.St) (H : Hp) (R : It → Hp → Prop) (env : En) (fp Z : List Addr) (xs : List D), EOk X.K Γ env σ H fp Z → it env = some xs →
    (∀ J H' G1 G0, Sub H H' → Src X.K J xs G1 G0 → Sub G1 H' → Sub G0 (hid (fp ++ Z) H') → (pu = false → G1 = G0) → R J H') → wi σ H R) (hix : ∀ i ∈ ix, i ∈ own.map (·.2)) (hΓ : ∀ i ∈ own.map (·.2), ∃ s, Γ[i]? = some s) (ck : ke.cu = true)
    (σ : L2.St) (H : Hp) (Q : VK) (env : En) (fp Z : List Addr) (d : D) (E : EOk X.K Γ env σ H fp Z) (hf : lcF (own.map (·.2)) it as tt fe env = some d) (hQ : ∀ v H', Sub H H' → HK X.K (.nw (.li .fz)) H fp Z H' v d → Q v H') :
    tLc wi (tgcan X.K Γ as ix) (ttcan X.K Γ tt) (tcan X.K Γ fe ke) (own.map (·.2)) σ H Q := by
  obtain ⟨xs, hx, hf⟩ := Option.bind_eq_some_iff.mp hf
  obtain ⟨ys, hy, hf⟩ := Option.bind_eq_some_iff.mp hf
  unfold lstD at hf
  split at hf
  · rename_i hlen
    cases hf
    refine hq σ H _ env fp Z xs E hx fun J H1 G1 G0 s1 src sG1 sG0 _ D hD => ?_
    have E1 := E.same s1
    have hDO := E1.fresh hD
    have nG1 : ∀ b o, G1 b = some o → b ≠ D := fun b o h z => by subst z; have := sG1 b o h; rw [hD] at this; cases this
    have nG0 : ∀ b o, G0 b = some o → b ≠ D := fun b o h z => by subst z; have := hid_sub b o (sG0 b o h); rw [hD] at this; cases this
    refine ⟨fun i m H' => m = xs.length - i ∧ i ≤ xs.length ∧ ∃ vs acc rest, H' D = some (.lst vs) ∧ Reps X.K (hid (fp ++ (D :: Z)) H') vs acc ∧ EOk X.K Γ env σ H' fp (D :: Z) ∧ (∀ b o, b ≠ D → H1 b = some o → H' b = some o) ∧ lcL as tt fe (wipeE (own.map (·.2)) env) (xs.drop i) = some rest ∧ acc ++ rest = ys,
      ⟨xs.length, rfl, Nat.zero_le _, [], [], ys, upd_same, .nil, ?_, fun b o n h => by rw [upd_ne n]; exact h, by rw [List.drop_zero]; exact hy, rfl⟩, ?_⟩
    · have z := E1.hide (Y := [D]) (H' := upd H1 D (.lst [])) (Sub.upd hD) fun b hb => by
        have e : b = D := by simpa using hb
        subst e
        exact ⟨hD, _, upd_same, nt_lst _⟩
      exact z
    · rintro i m H' ⟨rfl, hi, vs, acc, rest, hDv, hr, E2, sb, hl, ha⟩
      have g1 : Sub G1 H' := fun b o h => sb b o (nG1 b o h) (sG1 b o h)
      have g0 : Sub G0 (hid (fp ++ (D :: Z)) H') := fun b o h => by
        have nd := nG0 b o h
        obtain ⟨h1, h2⟩ := hid_some (sG0 b o h)
        rw [hid_of]
        · exact sb b o nd h2
        · intro z
          rcases List.mem_append.mp z with z | z
          · exact h1 (List.mem_append_left _ z)
          · rcases List.mem_cons.mp z with z | z
            · exact nd z
            · exact h1 (List.mem_append_right _ z)
      by_cases hlt : i < xs.length
      · have hd : xs.drop i = xs[i] :: xs.drop (i + 1) := List.drop_eq_getElem_cons hlt
        rw [hd] at hl
        obtain ⟨e1, he1, hl⟩ := Option.bind_eq_some_iff.mp (show (as xs[i] _).bind _ = some rest from hl)
        obtain ⟨b, hb, hl⟩ := Option.bind_eq_some_iff.mp hl
        have hdi : xs[i]? = some xs[i] := List.getElem?_eq_getElem hlt
        obtain ⟨j1, y1⟩ := src.go i H' (fp ++ (D :: Z)) g1 g0 (fun b hb => let ⟨o, h, _⟩ := E2.ok b hb; ⟨o, h⟩) _ hdi
        refine .inr ⟨j1, fun H'' => ∃ vs acc rest, H'' D = some (.lst vs) ∧ Reps X.K (hid (fp ++ (D :: Z)) H'') vs acc ∧ EOk X.K Γ env σ H'' fp (D :: Z) ∧ (∀ b o, b ≠ D → H1 b = some o → H'' b = some o) ∧ lcL as tt fe (wipeE (own.map (·.2)) env) (xs.drop (i + 1)) = some rest ∧ acc ++ rest = ys,
          fun H'' ⟨v1, a1, r1, z1, z2, z3, z4, z5, z6⟩ => ⟨xs.length - (i + 1), by omega, rfl, hlt, v1, a1, r1, z1, z2, z3, z4, z5, z6⟩, fun x H2 hyl => ?_⟩
        obtain ⟨s2, rx⟩ := y1 x H2 hyl
        have E3 := E2.same s2
        have E4 : EOk X.K Γ (wipeE (own.map (·.2)) env) (L2.wipe σ (own.map (·.2))) H2 fp (D :: Z) := E3.wipe hΓ
        refine ⟨_, _, fp, D :: Z, e1, E4, rx, he1, fun σ2 E5 w2 => ⟨?_, e1, fp, D :: Z, b, E5, hb, fun H3 s3 => ?_⟩⟩
        · have := w2 (own.map (·.2)) hix
          rw [this]
          -- wiping twice
          have ww : ∀ (l : List Nat) (σ : L2.St), L2.wipe (L2.wipe σ l) l = L2.wipe σ l := fun l => by
            have : ∀ (l m : List Nat) (σ : L2.St), (∀ i ∈ m, i ∈ l) → L2.wipe (L2.wipe σ m) l = L2.wipe σ l := fun l m => by
              induction m with
              | nil => intro σ _; rfl
              | cons v m ih =>
                intro σ h
                show L2.wipe ((L2.wipe σ m).set v none) l = _
                rw [wipe_set (h v (by simp)), ih σ fun i hi => h i (by simp [hi])]
            exact fun σ => this l l σ fun _ h => h
          exact ww _ _
        · have dOf : ∀ {H4 : Hp}, Sub H2 H4 → H4 D = some (.lst vs) := fun s => s D _ (s2 D _ hDv)
          have sbOf : ∀ {H4 : Hp}, Sub H2 H4 → ∀ b o, b ≠ D → H1 b = some o → H4 b = some o := fun s b o n h => s b o (s2 b o (sb b o n h))
          cases b with
          | false =>
            rw [if_neg Bool.false_ne_true] at hl
            refine iteF ?_
            exact ⟨vs, acc, rest, dOf s3, hr.mono (hid_mono (s2.trans s3)), E3.same s3, sbOf s3, hl, ha⟩
          | true =>
            rw [if_pos rfl] at hl
            refine iteT ?_
            obtain ⟨y, hy', hl⟩ := Option.bind_eq_some_iff.mp hl
            obtain ⟨rs, hrs, e⟩ := Option.map_eq_some_iff.mp hl
            refine ⟨e1, fp, D :: Z, y, E5.same s3, hy', fun v H4 s4 hv => ?_⟩
            have s24 := s3.trans s4
            have la : acc.length + 1 + rs.length = ys.length := by
              rw [← ha, ← e]
              simp
              omega
            refine ⟨vs, dOf s24, by rw [hr.length]; omega, vs ++ [v], acc ++ [y], rs, upd_same, ?_, (E3.same s24).hset (by simp) (nt_lst _), fun b o n h => by rw [upd_ne n]; exact sbOf s24 b o n h, hrs, by rw [List.append_assoc, ← ha, ← e]; rfl⟩
            rw [hid_updin (by simp)]
            exact (hr.mono (hid_mono (s2.trans s24))).append (.cons (hv.toU ck) .nil)
      · have e : i = xs.length := by omega
        subst e
        rw [List.drop_length] at hl
        cases hl
        rw [List.append_nil] at ha
        subst ha
        refine .inl ⟨src.stop H' g1, hQ _ H' (fun b o h => ?_) ⟨[D], fun b hb => ?_, by simp, .li (fp := []) hDv (Trs.ofFz (hr.mono (hid_less fun b hb => ?_)))⟩⟩
        · have h1 := s1 b o h
          exact sb b o (fun z => by subst z; rw [hD] at h1; cases h1) h1
        · have e : b = D := by simpa using hb
          subst e
          refine ⟨?_, hDO⟩
          cases q : H b with
          | none => rfl
          | some o => have := s1 b o q; rw [hD] at this; cases this
        · rcases List.mem_append.mp hb with z | z
          · exact List.mem_append_right _ (by have e : b = D := by simpa using z
                                              subst e; simp)
          · rcases List.mem_append.mp z with z | z
            · exact List.mem_append_left _ z
            · exact List.mem_append_right _ (by simp [z])
  · cases hf
theorem s_lc (hi : SPI X Γ tg iter it pu) (ok : BlkOk X.N X.env.scope scope own) (hg : BlkA X scope fun X => SG X 0 Γ tg as ix) (ht : BlkA X scope fun X => STl X Γ ifs tt) (he : BlkA X scope fun X => SP X Γ elt fe ke) (hN : X.N.Nodup) (hix : ∀ i ∈ ix, i ∈ own.map (·.2) := by decide) (hΓ : ∀ i ∈ own.map (·.2), ∃ s, Γ[i]? = some s) (ck : ke.cu = true := by rfl) (hc : X.calm = true := by rfl) (hs : ∀ x, foldedSetIterable iter X.env x = pure x := by intro _; rfl) :
    SP X Γ (.ListComp elt [⟨tg, iter, ifs, 0⟩] scope pos) (lcF (own.map (·.2)) it as tt fe) (.nw (.li .fz)) := by
  obtain ⟨wi, pi, qi⟩ := hi.ex
  exact ⟨_, pe_lc (g := tgcan X.K Γ as ix) (tt := ttcan X.K Γ tt) (te := tcan X.K Γ fe ke) hc hN pi ok (fun s H C cl fp => (hg s H C cl fp).can) (fun s H C cl fp => (ht s H C cl fp).can) (fun s H C cl fp => (he s H C cl fp).can) hs, lc_sem qi hix hΓ ck⟩
/-- x = [..] where the two are one step -/
theorem qs_setLc (i : Nat) {y : Str} {s : Sh} (hi : SPI X Γ tg iter it pu) (ok : BlkOk X.N X.env.scope scope own) (hg : BlkA X scope fun X => SG X 0 Γ tg as ix) (ht : BlkA X scope fun X => STl X Γ ifs tt) (he : BlkA X scope fun X => SP X Γ elt fe ke) (hN : X.N.Nodup) (hyN : X.N[i]? = some y := by rfl) (hyl : X.env.scope.names.lookup y = some .local := by rfl) (hs' : Γ[i]? = some s := by rfl) (hss : s = .fz ∨ (s = .li .fz ∧ np ≤ i) := by decide) (hix : ∀ i ∈ ix, i ∈ own.map (·.2) := by decide) (hΓ : ∀ i ∈ own.map (·.2), ∃ s, Γ[i]? = some s) (ck : ke.cu = true := by rfl) (hc : X.calm = true := by rfl) (hs : ∀ x, foldedSetIterable iter X.env x = pure x := by intro _; rfl)
    (hsw : swapsWith (.ListComp elt [⟨tg, iter, ifs, 0⟩] scope pos) (some (.Name y p2)) pos'.line X.env = pure true := by exact L2.sw_true rfl rfl rfl (by decide +kernel)) :
    SS X xc W np Γ rk (.Assign [.Name y p2] (.ListComp elt [⟨tg, iter, ifs, 0⟩] scope pos) pos') (qDo (p2i (lcF (own.map (·.2)) it as tt fe)) (put i)) := by
  obtain ⟨wi, pi, qi⟩ := hi.ex
  refine ⟨_, ps_setLc (g := tgcan X.K Γ as ix) (tt := ttcan X.K Γ tt) (te := tcan X.K Γ fe ke) hc hN hyN hyl hsw pi ok (fun s H C cl fp => (hg s H C cl fp).can) (fun s H C cl fp => (ht s H C cl fp).can) (fun s H C cl fp => (he s H C cl fp).can) hs, fun D σ H env fp Z fl env' E hf hQ => ?_⟩
  unfold qDo p2i at hf
  cases hd : lcF (own.map (·.2)) it as tt fe env with
  | none => rw [hd] at hf; cases hf
  | some d =>
    rw [hd] at hf
    obtain ⟨e2, h2, z⟩ := Option.map_eq_some_iff.mp (show (put i d env).map _ = some (fl, env') from hf)
    cases z
    obtain ⟨hl, rfl⟩ := put_ok h2
    refine lc_sem qi hix hΓ ck σ H _ env fp Z d E hd fun v H1 s1 hv => ?_
    rcases hss with rfl | ⟨rfl, hnp⟩
    · exact hQ _ H1 fp ((E.same s1).setF hs' hv.nwU) (Ext.same s1) (Prot.set (.inl hs'))
    · obtain ⟨fn, a, nn, tr⟩ := hv
      exact hQ _ H1 (fn ++ fp) (EOk.setO hs' nn tr (fun b hb => (a b hb).2) (E.hide s1 fun b hb => ⟨(a b hb).1, tr.there b hb⟩)) ((Ext.same s1).more fun b hb => .inr (a b hb).1) (Prot.set (.inr hnp))
end
end Py

set_option Elab.async false
set_option linter.all false
set_option maxRecDepth 100000
set_option maxHeartbeats 4000000
/-! Own layer: sets of ints, sorted. -/
namespace Py
open PySem PySem.Spec PyProof.Rows L2

/-! ### set(list of ints) -/
abbrev bare (w : World) : Obj := { cls := .type "set", dict := none, data := .set #[] 0 (.fresh 0 0 (!w.params.followText "set-order")) }
section
variable {P : Program} {w : World} {A : Around} {E : Value → Shared → Prop} {s : Shared}
set_option maxHeartbeats 8000000 in
theorem set_of_list {l : Addr} {items : Array Value} (ns : List Int) {Q : Value → Shared → Prop} (hh : A.handled = none) (hl : s.heap.IsList l items) (hit : IntsAre items.toList ns) (hb : ns.length + 1 < scanBound)
    (h : ∀ (h' : Heap) (tk c : Nat), SetR w h' s.heap.objs.size (fun j => decide (j ∈ ns)) c → c ≤ ns.length → (∀ b o, s.heap.get? b = some o → h'.get? b = some o) → Q (.ref s.heap.objs.size) { s with heap := h', toks := tk }) :
    wpAny (model P w) A (call (.type "set") [.ref l]) Q E s := by
  have sz : items.size = ns.length := by rw [← Array.length_toList]; exact IntsAre.length hit
  obtain ⟨c, tl, m1⟩ := F.called_set.mro
  have m2 := F.called_set.made
  have m3 := F.called_set.sub
  refine wpAny_call (codeAny_of_tree ?_)
  show wpAny _ _ (callAny (.type "set") _) _ _ _
  refine wpAny_pure ⟨Code.quiet_builtin _ (by decide +kernel), codeAny_builtin F.entry_type_call ?_⟩
  rw [Around.under_plain (weight_type_call_type "set" [.ref l] []) rfl]
  have m4 := F.called_set.notType
  have m5 := F.called_set.canCreate
  have m6 := F.typeCall_set_1 (.ref l)
  repeat (any_goals (first | assumption | wp_step))
  refine codeAny_mono (code_set_led1 (.ref l) (E := E) (Q₁ := fun obj s1 => obj = .ref s.heap.objs.size ∧ s1 = { s with heap := s.heap.push (bare w) }) ⟨rfl, rfl⟩) fun r s1 hr => ?_
  cases r with
  | error e => exact hr
  | ok fl =>
    cases fl with
    | ret obj =>
      obtain ⟨rfl, rfl⟩ := hr
      have hS : (s.heap.push (bare w)).get? s.heap.objs.size = some (bare w) := Heap.get?_push_size _ rfl
      have hT : Shared.TypeIs { s with heap := s.heap.push (bare w) } (.ref s.heap.objs.size) "set" := ⟨_, hS, rfl⟩
      have m7 := F.called_set.init.lookup
      have m8 := F.called_set.init.bind (.ref s.heap.objs.size)
      repeat (any_goals (first | assumption | wp_step))
      refine codeAny_mono (codeAny_call_builtin (R := wants (fun r s2 => r = .none ∧ ∃ h' tk c, s2 = { s with heap := h', toks := tk } ∧ SetR w h' s.heap.objs.size (fun j => decide (j ∈ ns)) c ∧ c ≤ ns.length ∧
          (∀ b o, s.heap.get? b = some o → h'.get? b = some o)) E) F.called_set.init.plain F.entry_set_init (check_set_init_1 hT ?_)) fun r2 s2 hr2 => ?_
      · obtain ⟨ol, ho, hcl, nl, hdl⟩ := hl
        obtain ⟨c1, d1, da1, sl1⟩ := ol
        simp only at hcl hdl
        subst hcl; subst hdl
        have ho1 : (s.heap.push (bare w)).get? l = some { cls := .type "list", dict := d1, data := .seq items nl, slots := sl1 } := Heap.get?_push_of_some _ ho
        have n1 := F.sub_list_set
        have n2 := F.sub_list_frozenset
        have n3 : (Value.type "list" == Value.type "dict") = false := by decide
        have hl1 : (s.heap.push (bare w)).IsList l items := ⟨_, ho1, rfl, nl, rfl⟩
        unfold Builtin.«set.__init__» noKeywords Builtin.Frozenset.updateFrom
        generalize hp : pyIter = PI
        wp_walk
        subst hp
        refine wpAny_pyIter_list hl1 ?_
        refine wpAny_bind (wpAny_runValue ?_)
        have lS : l < s.heap.objs.size := Heap.lt_size ho
        have hh3 : A.in1.in1.in1.handled = none := by simp [hh]
        have nI : l ≠ (s.heap.push (bare w)).objs.size := by
          rw [Heap.size_push]; exact Nat.ne_of_lt (Nat.lt_succ_of_lt lS)
        have sf : s.heap.objs.size ∉ [(s.heap.push (bare w)).objs.size, l] := by
          rw [Heap.size_push]; simp only [List.mem_cons, List.not_mem_nil, or_false, not_or]
          exact ⟨Nat.ne_of_lt (Nat.lt_succ_self _), Nat.ne_of_gt lS⟩
        have hv : ∀ (i : Nat) (v : Value), items[i]? = some v → ∃ k t, ns[i]? = some k ∧ v = .int k t := fun i v hv => by
          have hi : i < ns.length := by rw [← sz]; exact (Array.getElem?_eq_some_iff.mp hv).1
          obtain ⟨t, e⟩ := PyProof.Rows.IntsAre.int_at hit i v (by rw [Array.getElem?_toList]; exact hv)
          refine ⟨ns[i], t, List.getElem?_eq_getElem hi, ?_⟩
          rw [e, List.getD_eq_getElem?_getD, List.getElem?_eq_getElem hi] <;> rfl
        refine set_update_ints ((Walks.list hh3 _ l nI items).toS) s.heap.objs.size
          sf ns sz hb hv (items.size - 0) 0 _ (by omega) (Nat.zero_le _)
          ⟨⟨_, Heap.get?_push_size _ rfl, rfl, rfl⟩, (hl1.push _)⟩ ?hS0 ?hR
        case hS0 =>
          have hg : ((s.heap.push (bare w)).push { cls := .type "list_iterator", data := .fields #[.ref l, .int 0 0] }).get? s.heap.objs.size = some (bare w) := Heap.get?_push_of_some _ hS
          exact ⟨0, Nat.le_refl 0, setR_new_at hg⟩
        case hR =>
          intro s' c' hm hc' hS'
          obtain ⟨h', g2, d', tk', os'⟩ := s'
          have eg : g2 = s.gens := hm.gens
          have ed : d' = s.drawn := hm.drawn
          have eo : os' = s.os := hm.os
          subst eg; subst ed; subst eo
          show wpAny _ _ _ _ _ _
          refine wpAny_pure ?_
          show wpAny _ _ (ret Value.none) _ _ _
          rw [sz] at hc'
          refine wpAny_pure ⟨rfl, h', tk', c', rfl, hS', hc', fun b o e => ?_⟩
          have lb : b < s.heap.objs.size := Heap.lt_size e
          have n1 : b ≠ s.heap.objs.size := Nat.ne_of_lt lb
          have n2 : b ≠ (s.heap.push (bare w)).objs.size := by
            rw [Heap.size_push]; exact Nat.ne_of_lt (Nat.lt_succ_of_lt lb)
          exact hm.heap b o (by simp only [List.mem_cons, List.not_mem_nil, or_false, not_or]; exact ⟨n1, n2⟩) (Heap.get?_push_of_some _ (Heap.get?_push_of_some _ e))
      · cases r2 with
        | error e => exact hr2
        | ok fl2 =>
          cases fl2 with
          | ret r =>
            obtain ⟨rfl, h', tk, c', rfl, hS', hc', hk'⟩ := hr2
            repeat (any_goals (first | assumption | wp_step))
            exact h _ _ _ hS' hc' hk'
          | _ => exact hr2.elim
    | _ => exact hr.elim
end

/-! ### sorted, each once -/
def insU (k : Int) : List Int → List Int
  | [] => [k]
  | x :: xs => if k < x then k :: x :: xs else if k = x then x :: xs else x :: insU k xs
def sdd : List Int → List Int
  | [] => []
  | x :: xs => insU x (sdd xs)
theorem insU_mem {k j : Int} : ∀ {xs : List Int}, j ∈ insU k xs ↔ j = k ∨ j ∈ xs
  | [] => by simp [insU]
  | x :: xs => by
    unfold insU
    split
    · simp
    · split
      · rename_i h; subst h; simp
      · rw [List.mem_cons, insU_mem (xs := xs), List.mem_cons]
        constructor
        · rintro (h | h | h)
          · exact .inr (.inl h)
          · exact .inl h
          · exact .inr (.inr h)
        · rintro (h | h | h)
          · exact .inr (.inl h)
          · exact .inl h
          · exact .inr (.inr h)
theorem insU_pw {k : Int} : ∀ {xs : List Int}, xs.Pairwise (· < ·) → (insU k xs).Pairwise (· < ·)
  | [], _ => by simp [insU]
  | x :: xs, h => by
    obtain ⟨h1, h2⟩ := List.pairwise_cons.mp h
    unfold insU
    split
    · rename_i c
      refine List.pairwise_cons.mpr ⟨fun y hy => ?_, h⟩
      rcases List.mem_cons.mp hy with rfl | hy
      · exact c
      · exact Int.lt_trans c (h1 y hy)
    · split
      · exact h
      · rename_i c1 c2
        refine List.pairwise_cons.mpr ⟨fun y hy => ?_, insU_pw h2⟩
        rcases insU_mem.mp hy with rfl | hy
        · omega
        · exact h1 y hy
theorem sdd_mem {j : Int} : ∀ {xs : List Int}, j ∈ sdd xs ↔ j ∈ xs
  | [] => by simp [sdd]
  | x :: xs => by rw [sdd, insU_mem, sdd_mem (xs := xs), List.mem_cons]
theorem sdd_pw : ∀ {xs : List Int}, (sdd xs).Pairwise (· < ·)
  | [] => List.Pairwise.nil
  | x :: xs => insU_pw sdd_pw
theorem pw_unique : ∀ {xs ys : List Int}, xs.Pairwise (· < ·) → ys.Pairwise (· < ·) → (∀ k, k ∈ xs ↔ k ∈ ys) → xs = ys
  | [], [], _, _, _ => rfl
  | [], y :: ys, _, _, h => absurd ((h y).mpr (by simp)) (by simp)
  | x :: xs, [], _, _, h => absurd ((h x).mp (by simp)) (by simp)
  | x :: xs, y :: ys, hx, hy, h => by
    obtain ⟨x1, x2⟩ := List.pairwise_cons.mp hx
    obtain ⟨y1, y2⟩ := List.pairwise_cons.mp hy
    have e : x = y := by
      have a := (h x).mp (by simp)
      have b := (h y).mpr (by simp)
      rcases List.mem_cons.mp a with a | a
      · exact a
      · rcases List.mem_cons.mp b with b | b
        · exact b.symm
        · have := y1 x a; have := x1 y b; omega
    subst e
    rw [pw_unique x2 y2 fun k => ?_]
    have hk := h k
    constructor
    · intro m
      have := hk.mp (List.mem_cons_of_mem _ m)
      rcases List.mem_cons.mp this with z | z
      · have := x1 k m; omega
      · exact z
    · intro m
      have := hk.mpr (List.mem_cons_of_mem _ m)
      rcases List.mem_cons.mp this with z | z
      · have := y1 k m; omega
      · exact z

def ints? : List D → Option (List Int)
  | [] => some []
  | .int i :: ds => (ints? ds).map (i :: ·)
  | _ => none
theorem ints?_ok : ∀ {ds : List D} {ns : List Int}, ints? ds = some ns → ds = ns.map D.int
  | [], ns, h => by cases h; rfl
  | .int i :: ds, ns, h => by
    obtain ⟨ms, h1, h2⟩ := Option.map_eq_some_iff.mp (show (ints? ds).map (i :: ·) = some ns from h)
    subst h2
    rw [ints?_ok h1] <;> rfl
  | .non :: _, _, h => nomatch h
  | .bl _ :: _, _, h => nomatch h
  | .str _ :: _, _, h => nomatch h
  | .tup _ :: _, _, h => nomatch h
  | .lst _ :: _, _, h => nomatch h
  | .dic _ _ :: _, _, h => nomatch h
  | .dct _ _ :: _, _, h => nomatch h
  | .ins _ _ _ :: _, _, h => nomatch h
theorem ints?_map : ∀ {ns : List Int}, ints? (ns.map D.int) = some ns
  | [] => rfl
  | n :: ns => by
    show (ints? (ns.map D.int)).map (n :: ·) = _
    rw [ints?_map] <;> rfl
theorem Reps.ints {K : PySem.W.Frag} {G : Hp} : ∀ {vs : List V} {ns : List Int}, Reps K G vs (ns.map D.int) → vs = ns.map V.int
  | _, [], h => by cases h; rfl
  | _, n :: ns, h => by
    cases h with
    | cons h r => cases h; rw [Reps.ints r] <;> rfl
theorem Reps.ofInts {K : PySem.W.Frag} {G : Hp} : ∀ {ns : List Int}, Reps K G (ns.map V.int) (ns.map D.int)
  | [] => .nil
  | n :: ns => .cons (.int n) Reps.ofInts

def srtD : D → Option D
  | .lst ds => (ints? ds).bind fun ns => if ns.length < 64 then some (.lst ((sdd ns).map D.int)) else none
  | _ => none
section
variable {X : Cx}
def rSetOf (K : PySem.W.Frag) (w : World) : List V → Hp → VK → Prop := fun xs H Q => ∃ (l : Addr) (ns : List Int), xs = [V.ref l] ∧ SqL K H l (ns.map V.int) ∧ ns.length < 64 ∧ ∀ (p : Addr) (c : Nat), c ≤ ns.length → H p = none → Q (.ref p) (upd H p (SetO w p (fun j => decide (j ∈ ns)) c))
theorem call_setOf (hc : X.calm = true) : CallR X (.type "set") (rSetOf X.K X.w) := by
  intro pins s σ H xs us Q I r h
  obtain ⟨l, ns, rfl, hs, hlt, q⟩ := h
  rw [Vals.ref1 r]
  obtain ⟨its, rv, pl, hz⟩ := I.list hs
  refine set_of_list ns (I.ok.hd hc) pl.isList (by simpa using ints_of_vals rv) (by unfold scanBound; omega) fun h' tk c R1 hcn k => ?_
  exact ⟨.ref _, upd H s.heap.objs.size (SetO X.w s.heap.objs.size (fun j => decide (j ∈ ns)) c), I.laid (t' := tk) k (Nat.le_refl _) (setO_new R1), rfl, q _ _ hcn (I.hok.fresh (Nat.le_refl _))⟩
variable {Γ : List Sh} {e : Expr} {f : En → Option D} {k : Kd} {pos p2 p3 p4 : Pos}
/-- sorted(set(a)) -/
theorem s_sortset (hc : X.calm = true) (hm : X.mg "set" = none) (hm2 : X.mg "sorted" = none) (ha : SP X Γ e f k) (hgl : Gl X "set" := by rfl) (hgl2 : Gl X "sorted" := by rfl) (he : starEach [e] X.env = (false, eval e X.env) :: starEach [] X.env := by rfl)
    (he2 : starEach [.Call (.Name "set" p2) [e] [] p3] X.env = (false, eval (.Call (.Name "set" p2) [e] [] p3) X.env) :: starEach [] X.env := by rfl) :
    SP X Γ (.Call (.Name "sorted" p4) [.Call (.Name "set" p2) [e] [] p3] [] pos) (b1 f srtD) (.nw (.li .fz)) := by
  obtain ⟨t, p, q⟩ := ha.ex
  refine ⟨_, pe_callB (cr_sortedSet hc) hgl2 hm2 (by decide +kernel) (pa_cons (pe_callTy (call_setOf hc) hgl hm (by decide +kernel) (pa_cons p pa_nil he) (by decide) (by decide) he (by rfl)) pa_nil he2) (by decide) (by decide) he2 (by rfl), fun σ H Q env fp Z d E hf hQ => ?_⟩
  obtain ⟨y, hy, hd⟩ := bind1 hf
  refine q σ H _ env fp Z y E hy fun v H1 s1 h1 => ?_
  cases y with
  | lst xs =>
    obtain ⟨ns, hns, hd2⟩ := Option.bind_eq_some_iff.mp (show (ints? xs).bind _ = some d from hd)
    split at hd2
    · rename_i hl
      obtain ⟨p1, us, rfl, l1, r1⟩ := h1.lst
      have e1 := ints?_ok hns
      subst e1
      have e2 := r1.ints
      subst e2
      refine ⟨_, _, rfl, l1, hl, fun p c hc' hp => ⟨_, _, _, rfl, upd_same, by omega, fun ms p5 pw mem _ hp5 => ?_⟩⟩
      have e3 : ms = sdd ns := pw_unique pw sdd_pw fun k => by rw [mem k, sdd_mem, decide_eq_true_eq]
      subst e3
      have e4 := (Option.some.inj hd2).symm
      subst e4
      exact hQ _ _ ((s1.trans (Sub.upd hp)).trans (Sub.upd hp5)) (new_list (c := true) E (s1.trans (Sub.upd hp)) hp5 Reps.ofInts)
    · cases hd2
  | _ => cases hd
end
end Py

set_option Elab.async false
set_option linter.all false
set_option maxRecDepth 100000
set_option maxHeartbeats 4000000
/-! Own layer: constants and tables of the module, products. -/
namespace Py
open PySem PySem.Spec PyProof.Rows L2

/-! ### constants of the module -/
mutual
def repB (K : PySem.W.Frag) : D → Value → Bool
  | .non, u => (match u with
    | .none => true
    | _ => false)
  | .bl c, u => (match u with
    | .bool b => b == c
    | _ => false)
  | .int j, u => (match u with
    | .int i _ => decide (i = j)
    | _ => false)
  | .str y, u => (match u with
    | .str x _ => decide (x = y)
    | _ => false)
  | .tup ds, u => (match u with
    | .ref a => (match K.lookup a with
      | some ⟨.type c, _, .seq its _, _⟩ => decide (c = "tuple") && (decide (its.size ≤ sizeLine) && repsB K ds its.toList)
      | _ => false)
    | _ => false)
  | _, _ => false
def repsB (K : PySem.W.Frag) : List D → List Value → Bool
  | [], us => us.isEmpty
  | d :: ds, us => (match us with
    | [] => false
    | u :: us => repB K d u && repsB K ds us)
end
mutual
theorem repB_ok {K : PySem.W.Frag} : ∀ {d : D} {u : Value}, repB K d u = true → ∃ v, RelV v u ∧ ∀ G, Rep K G v d
  | .non, u, h => by
    unfold repB at h
    split at h
    · exact ⟨.non, rfl, fun _ => .non⟩
    · cases h
  | .bl c, u, h => by
    unfold repB at h
    split at h
    · rename_i b
      have e : b = c := eq_of_beq h
      subst e
      exact ⟨.bl b, rfl, fun _ => .bl b⟩
    · cases h
  | .int j, u, h => by
    unfold repB at h
    split at h
    · rename_i i t
      have e : i = j := of_decide_eq_true h
      subst e
      exact ⟨.int i, ⟨t, rfl⟩, fun _ => .int i⟩
    · cases h
  | .str y, u, h => by
    unfold repB at h
    split at h
    · rename_i x t
      have e : x = y := of_decide_eq_true h
      subst e
      exact ⟨.str x, ⟨t, rfl⟩, fun _ => .str x⟩
    · cases h
  | .tup ds, u, h => by
    unfold repB at h
    split at h
    · rename_i a
      split at h
      · rename_i c dd its n sl q
        obtain ⟨h1, h2⟩ := Bool.and_eq_true_iff.mp h
        obtain ⟨h3, h4⟩ := Bool.and_eq_true_iff.mp h2
        have e1 : c = "tuple" := of_decide_eq_true h1
        subst e1
        obtain ⟨vs, r1, r2⟩ := repsB_ok h4
        exact ⟨.ref a, rfl, fun G => .tup (.inr ⟨_, its, n, q, rfl, rfl, of_decide_eq_true h3, r1⟩) (r2 G)⟩
      · cases h
    · cases h
  | .lst _, _, h => by cases h
  | .dic _ _, _, h => by cases h
  | .dct _ _, _, h => by cases h
  | .ins _ _ _, _, h => by cases h
theorem repsB_ok {K : PySem.W.Frag} : ∀ {ds : List D} {us : List Value}, repsB K ds us = true → ∃ vs, Vals vs us ∧ ∀ G, Reps K G vs ds
  | [], us, h => by
    have e : us = [] := List.isEmpty_iff.mp h
    subst e
    exact ⟨[], .nil, fun _ => .nil⟩
  | d :: ds, [], h => by cases h
  | d :: ds, u :: us, h => by
    obtain ⟨h1, h2⟩ := Bool.and_eq_true_iff.mp (show (repB K d u && repsB K ds us) = true from h)
    obtain ⟨v, r1, r2⟩ := repB_ok h1
    obtain ⟨vs, r3, r4⟩ := repsB_ok h2
    exact ⟨v :: vs, .cons r1 r3, fun G => .cons (r2 G) (r4 G)⟩
end
/-- the name x of the module is the constant d -/
def Ct (mg : Str → Option Value) (K : PySem.W.Frag) (x : Str) (d : D) : Prop := ∃ u v, mg x = some u ∧ RelV v u ∧ ∀ G, Rep K G v d
def ctB (K : PySem.W.Frag) (x : Str) (d : D) : Bool := match PySem.W.nsIn K mainGlobals x with
  | some (some u) => repB K d u
  | _ => false
theorem ctB_ok {K : PySem.W.Frag} {h : Heap} {mg : Str → Option Value} (X : K.In h) (G : h.Ns mainGlobals mg) {x : Str} {d : D} (c : ctB K x d = true) : Ct mg K x d := by
  unfold ctB at c
  split at c
  · rename_i u e
    obtain ⟨v, r1, r2⟩ := repB_ok c
    exact ⟨u, v, PySem.W.mg_of X G e, r1, r2⟩
  · cases c
def ctsB (K : PySem.W.Frag) (cs : List (Str × D)) : Bool := cs.all fun q => ctB K q.1 q.2
theorem ctsB_ok {K : PySem.W.Frag} {h : Heap} {mg : Str → Option Value} (X : K.In h) (G : h.Ns mainGlobals mg) {cs : List (Str × D)} (c : ctsB K cs = true) (i : Nat) {x : Str} {d : D} (hi : cs[i]? = some (x, d) := by rfl) : Ct mg K x d :=
  ctB_ok X G (List.all_eq_true.mp c _ (List.mem_of_getElem? hi))
section
variable {X : Cx} {Γ : List Sh} {e : Expr} {pos : Pos}
theorem s_glob {x : Str} {d : D} (h : Ct X.mg X.K x d) (hg : Gl X x := by rfl) (hd : (x == ("__debug__" : Str)) = false := by decide) : SP X Γ (.Name x pos) (c0 d) .u := by
  obtain ⟨u, v, h1, h2, h3⟩ := h
  exact ⟨_, pe_glob hg h1 h2 hd, fun σ H Q env fp Z d' E hf hQ => by cases hf; exact hQ _ H Sub.refl (h3 _)⟩
end

/-! ### tables of the module -/
def entB (K : PySem.W.Frag) : List DictEntry → List (Str × D) → Bool
  | [], [] => true
  | e :: es, q :: r => (match e.key with
    | .str x _ => decide (x = q.1)
    | _ => false) && (repB K q.2 e.val && entB K es r)
  | _, _ => false
def tbB (K : PySem.W.Frag) (x : Str) (kds : List (Str × D)) : Bool := decide (PySem.W.nsIn K mainGlobals x = some (some (.ref (He.ga K x)))) && (match K.lookup (He.ga K x) with
  | some ⟨_, _, .dict es _, _⟩ => entB K es.toList kds
  | _ => false)
/-- the name x of the module is a written table with these pairs -/
def Tb (mg : Str → Option Value) (K : PySem.W.Frag) (w : World) (x : Str) (kds : List (Str × D)) : Prop :=
  ∃ d es n, mg x = some (.ref d) ∧ KDict K w d es n ∧ ∀ z, ∃ r, PySem.W.nsIn K d z = some r ∧ match kds.lookup z with
    | some dv => ∃ u v, r = some u ∧ RelV v u ∧ ∀ G, Rep K G v dv
    | none => r = none
theorem entB_ok {K : PySem.W.Frag} (z : Str) : ∀ {es : List DictEntry} {kds : List (Str × D)}, entB K es kds = true → (es.any (·.refKey)) = false ∧ match kds.lookup z with
    | some dv => ∃ e v, es.find? (·.key.isStr z) = some e ∧ RelV v e.val ∧ ∀ G, Rep K G v dv
    | none => es.find? (·.key.isStr z) = none
  | [], [], _ => ⟨rfl, rfl⟩
  | e :: es, (k, dv) :: r, h => by
    obtain ⟨h1, h2⟩ := Bool.and_eq_true_iff.mp (show ((match e.key with
      | .str x _ => decide (x = k)
      | _ => false) && (repB K dv e.val && entB K es r)) = true from h)
    obtain ⟨h3, h4⟩ := Bool.and_eq_true_iff.mp h2
    obtain ⟨i1, i2⟩ := entB_ok z h4
    split at h1
    · rename_i x t ek
      have ex : x = k := of_decide_eq_true h1
      subst ex
      refine ⟨?_, ?_⟩
      · rw [List.any_cons, i1]
        unfold DictEntry.refKey
        rw [ek] <;> rfl
      · have es' : e.key.isStr z = decide (x = z) := by
          rw [ek]
          first
            | rfl
            | (unfold Value.isStr; first | rfl | (by_cases q : x = z <;> simp [q]))
        by_cases q : z = x
        · subst q
          rw [List.lookup_cons, List.find?_cons, es']
          simp
          exact repB_ok h3
        · have q2 : ¬ x = z := fun h => q h.symm
          rw [List.lookup_cons, List.find?_cons, es']
          simp only [q2, decide_false, beq_eq_false_iff_ne.mpr q]
          exact i2
    · cases h1
theorem tbB_ok {K : PySem.W.Frag} {h : Heap} {mg : Str → Option Value} {w : World} (X : K.In h) (G : h.Ns mainGlobals mg) {x : Str} {kds : List (Str × D)} (c : tbB K x kds = true) (kd : ∃ es n, KDict K w (He.ga K x) es n) : Tb mg K w x kds := by
  obtain ⟨c1, c2⟩ := Bool.and_eq_true_iff.mp c
  obtain ⟨es, n, kd⟩ := kd
  have e1 := of_decide_eq_true c1
  refine ⟨_, es, n, PySem.W.mg_of X G e1, kd, fun z => ?_⟩
  have c3 : entB K es.toList kds = true := by
    rw [kd.at_] at c2
    exact c2
  obtain ⟨i1, i2⟩ := entB_ok z c3
  unfold PySem.W.nsIn
  rw [kd.at_]
  cases hl : kds.lookup z with
  | some dv =>
    rw [hl] at i2
    obtain ⟨e, v, h1, h2, h3⟩ := i2
    exact ⟨some e.val, by simp only [h1], _, v, rfl, h2, h3⟩
  | none =>
    rw [hl] at i2
    have i3 : es.toList.find? (·.key.isStr z) = none := i2
    refine ⟨none, ?_, rfl⟩
    simp only [i3]
    rw [if_neg]
    intro z
    rw [i1] at z
    cases z

def tgD (kds : List (Str × D)) (k d : D) : Option D := match k with
  | .str z => some ((kds.lookup z).getD d)
  | _ => none
def tnD (neg : Bool) (kds : List (Str × D)) (k : D) : Option D := match k with
  | .str z => some (.bl (if neg then !(kds.lookup z).isSome else (kds.lookup z).isSome))
  | _ => none
def txD (kds : List (Str × D)) (k : D) : Option D := match k with
  | .str z => kds.lookup z
  | _ => none
section
variable {X : Cx} {Γ : List Sh} {e f : Expr} {fe ff : En → Option D} {ke kf : Kd} {pos p2 apos cpos : Pos} {x : Str} {kds : List (Str × D)} {te tf : TE}
/-- T.get(k, d): what runs -/
theorem pe_kget2 (T : Tb X.mg X.K X.w x kds) (hg : Gl X x) (he : PE X e te) (hf : PE X f tf) (m : M2 X (.Name x p2) "get" apos e f cpos) (hd : (x == ("__debug__" : Str)) = false) :
    PE X (.Call (.Attribute (.Name x p2) "get" apos) [e, f] [] cpos) (fun σ H Q => te σ H fun y H2 => tf σ H2 fun z H3 => ∃ s, y = .str s ∧ match kds.lookup s with
      | some dv => ∀ v, (∀ G, Rep X.K G v dv) → Q v H3
      | none => Q z H3) := by
  obtain ⟨d, es, n, h1, kd, hz⟩ := T
  refine ⟨fun pins s σ H Q I h => ?_⟩
  refine wpAny_Call_method m.base m.few m.line PySem.F.plainAttrs_dict PySem.F.slot_dict_get PySem.F.type_dict_get (ld_glob I hg h1 ?_ hd)
  have hm := fun {s2 : Shared} (h2 : X.K.In s2.heap) => PySem.W.mapOf_K (prog := X.prog) (w := X.w) h2 kd.at_ kd.lit
  refine ⟨(hm I.kIn).typeIs, fun b q => ?_, ?_⟩
  · cases q
    exact ⟨_, I.kIn _ _ kd.at_, rfl⟩
  rw [m.trees]
  refine Calls.callWith_builtin rfl (Calls.evalArgs_plain (Calls.spliced_cons (thn (he.run pins s σ H _ I h) fun iv s2 ⟨y, H2, I2, ry, q2⟩ =>
    Calls.spliced_cons (thn (hf.run pins s2 σ H2 _ I2 q2) fun fv s3 ⟨z, H3, I3, rz, q3⟩ => Calls.spliced_nil ?_))))
  obtain ⟨k, rfl, q3⟩ := q3
  obtain ⟨t, rfl⟩ := (show ∃ t, iv = Value.str k t from ry)
  obtain ⟨r, hr, hk⟩ := hz k
  have fk := PySem.W.find_K kd.at_ hr
  refine call_meetsIn PySem.F.slot_dict_get (hm I3.kIn).typeIs PySem.F.entry_dict_get (PySem.F.args_dict_get_3 _ _ _) (meets_dict_get_default (strKind X.prog X.w) d (strKind_is X.prog X.w k t) kd.low fv) ⟨_, hm I3.kIn, ?_⟩
  show EP X pins σ Q _ _
  rw [fk]
  cases hl : kds.lookup k with
  | some dv =>
    rw [hl] at hk q3
    obtain ⟨u, v, rfl, h4, h5⟩ := hk
    exact ⟨v, H3, I3.tok _, h4, q3 v h5⟩
  | none =>
    rw [hl] at hk q3
    subst hk
    exact ⟨z, H3, I3.tok _, rz, q3⟩
theorem pe_kget1 (T : Tb X.mg X.K X.w x kds) (hg : Gl X x) (he : PE X e te) (m : M1 X (.Name x p2) "get" apos e cpos) (hd : (x == ("__debug__" : Str)) = false) :
    PE X (.Call (.Attribute (.Name x p2) "get" apos) [e] [] cpos) (fun σ H Q => te σ H fun y H2 => ∃ s, y = .str s ∧ match kds.lookup s with
      | some dv => ∀ v, (∀ G, Rep X.K G v dv) → Q v H2
      | none => Q .non H2) := by
  obtain ⟨d, es, n, h1, kd, hz⟩ := T
  refine ⟨fun pins s σ H Q I h => ?_⟩
  refine wpAny_Call_method m.base m.few m.line PySem.F.plainAttrs_dict PySem.F.slot_dict_get PySem.F.type_dict_get (ld_glob I hg h1 ?_ hd)
  have hm := fun {s2 : Shared} (h2 : X.K.In s2.heap) => PySem.W.mapOf_K (prog := X.prog) (w := X.w) h2 kd.at_ kd.lit
  refine ⟨(hm I.kIn).typeIs, fun b q => ?_, ?_⟩
  · cases q
    exact ⟨_, I.kIn _ _ kd.at_, rfl⟩
  rw [m.trees]
  refine Calls.callWith_builtin rfl (Calls.evalArgs_plain (Calls.spliced_cons (thn (he.run pins s σ H _ I h) fun iv s2 ⟨y, H2, I2, ry, q2⟩ => Calls.spliced_nil ?_)))
  obtain ⟨k, rfl, q3⟩ := q2
  obtain ⟨t, rfl⟩ := (show ∃ t, iv = Value.str k t from ry)
  obtain ⟨r, hr, hk⟩ := hz k
  have fk := PySem.W.find_K kd.at_ hr
  refine call_meetsIn PySem.F.slot_dict_get (hm I2.kIn).typeIs PySem.F.entry_dict_get (PySem.F.args_dict_get_2 _ _) (meets_dict_get (strKind X.prog X.w) d (strKind_is X.prog X.w k t) kd.low) ⟨_, hm I2.kIn, ?_⟩
  show EP X pins σ Q _ _
  rw [fk]
  cases hl : kds.lookup k with
  | some dv =>
    rw [hl] at hk q3
    obtain ⟨u, v, rfl, h4, h5⟩ := hk
    exact ⟨v, H2, I2.tok _, h4, q3 v h5⟩
  | none =>
    rw [hl] at hk q3
    subst hk
    exact ⟨.non, H2, I2.tok _, rfl, q3⟩
theorem s_tget2 (T : Tb X.mg X.K X.w x kds) (he : SP X Γ e fe ke) (hf : SP X Γ f ff kf) (ck : kf.cu = true := by rfl) (hg : Gl X x := by rfl) (m : M2 X (.Name x p2) "get" apos e f cpos := by exact ⟨rfl, rfl, rfl, rfl⟩) (hd : (x == ("__debug__" : Str)) = false := by decide) :
    SP X Γ (.Call (.Attribute (.Name x p2) "get" apos) [e, f] [] cpos) (b2 fe ff (tgD kds)) .u := by
  obtain ⟨te, pe, qe⟩ := he.ex
  obtain ⟨tf, pf, qf⟩ := hf.ex
  refine ⟨_, pe_kget2 T hg pe pf m hd, fun σ H Q env fp Z d E hz hQ => ?_⟩
  obtain ⟨a, b, ha, hb, hd⟩ := bind2 hz
  refine two qe qf E ha hb fun v w H' s h1 h2 => ?_
  cases a with
  | str z =>
    cases h1.rep
    refine ⟨z, rfl, ?_⟩
    have hd2 : (kds.lookup z).getD b = d := Option.some.inj hd
    cases hl : kds.lookup z with
    | some dv =>
      rw [hl] at hd2
      have e2 : dv = d := hd2
      subst e2
      exact fun v hv => hQ v H' s (hv _)
    | none =>
      rw [hl] at hd2
      have e2 : b = d := hd2
      subst e2
      exact hQ w H' s (h2.toU ck)
  | _ => cases hd
theorem s_tget1 (T : Tb X.mg X.K X.w x kds) (he : SP X Γ e fe ke) (hg : Gl X x := by rfl) (m : M1 X (.Name x p2) "get" apos e cpos := by exact ⟨rfl, rfl, rfl, rfl⟩) (hd : (x == ("__debug__" : Str)) = false := by decide) :
    SP X Γ (.Call (.Attribute (.Name x p2) "get" apos) [e] [] cpos) (b1 fe fun k => tgD kds k .non) .u := by
  obtain ⟨te, pe, qe⟩ := he.ex
  refine ⟨_, pe_kget1 T hg pe m hd, fun σ H Q env fp Z d E hz hQ => ?_⟩
  obtain ⟨a, ha, hd⟩ := bind1 hz
  refine qe σ H _ env fp Z a E ha fun v H' s h1 => ?_
  cases a with
  | str z =>
    cases h1.rep
    refine ⟨z, rfl, ?_⟩
    have hd2 : (kds.lookup z).getD .non = d := Option.some.inj hd
    cases hl : kds.lookup z with
    | some dv =>
      rw [hl] at hd2
      have e2 : dv = d := hd2
      subst e2
      exact fun v hv => hQ v H' s (hv _)
    | none =>
      rw [hl] at hd2
      have e2 : D.non = d := hd2
      subst e2
      exact hQ _ H' s (.non)
  | _ => cases hd
/-- k in T, k not in T -/
theorem rel_some {kds : List (Str × D)} {K : PySem.W.Frag} {z : Str} {r : Option Value} (h : match kds.lookup z with
    | some dv => ∃ u v, r = some u ∧ RelV v u ∧ ∀ G, Rep K G v dv
    | none => r = none) : r.isSome = (kds.lookup z).isSome := by
  cases hl : kds.lookup z with
  | some dv => rw [hl] at h; obtain ⟨u, v, rfl, _⟩ := h; rfl
  | none => rw [hl] at h; subst h; rfl
theorem st_tin (T : Tb X.mg X.K X.w x kds) (he : SP X Γ e fe ke) (hg : Gl X x := by rfl) (hm : behindInMarks .In (.Name x p2) = false := by first | exact nomark _ | rfl) (hd : (x == ("__debug__" : Str)) = false := by decide) :
    ST X Γ (.Compare e [.In] [.Name x p2] pos) (tb (b1 fe (tnD false kds)) asB) := by
  obtain ⟨te, pe, qe⟩ := he.ex
  obtain ⟨a, es, n, h1, kd, hz⟩ := T
  refine ⟨_, pt_cmpR (op_in_kd kd) pe (pe_glob (v := .ref a) hg h1 rfl hd) hm, fun σ H Q env fp Z b E hf hQ => ?_⟩
  obtain ⟨z, hz2, hb⟩ := Option.bind_eq_some_iff.mp hf
  have e2 := asB_ok hb
  subst e2
  obtain ⟨k, hk, hd2⟩ := bind1 hz2
  refine qe σ H _ env fp Z k E hk fun v H' s h2 => ?_
  cases k with
  | str y =>
    cases h2.rep
    obtain ⟨r, hr, hrel⟩ := hz y
    refine ⟨_, r, rfl, rfl, hr, _, rfl, ?_⟩
    have e3 : (kds.lookup y).isSome = b := D.bl.inj (Option.some.inj hd2)
    rw [rel_some hrel, e3]
    exact hQ _ s
  | _ => cases hd2
theorem st_tnotin (T : Tb X.mg X.K X.w x kds) (he : SP X Γ e fe ke) (hg : Gl X x := by rfl) (hm : behindInMarks .NotIn (.Name x p2) = false := by first | exact nomark _ | rfl) (hd : (x == ("__debug__" : Str)) = false := by decide) :
    ST X Γ (.Compare e [.NotIn] [.Name x p2] pos) (tb (b1 fe (tnD true kds)) asB) := by
  obtain ⟨te, pe, qe⟩ := he.ex
  obtain ⟨a, es, n, h1, kd, hz⟩ := T
  refine ⟨_, pt_cmpR (op_notIn_kd kd) pe (pe_glob (v := .ref a) hg h1 rfl hd) hm, fun σ H Q env fp Z b E hf hQ => ?_⟩
  obtain ⟨z, hz2, hb⟩ := Option.bind_eq_some_iff.mp hf
  have e2 := asB_ok hb
  subst e2
  obtain ⟨k, hk, hd2⟩ := bind1 hz2
  refine qe σ H _ env fp Z k E hk fun v H' s h2 => ?_
  cases k with
  | str y =>
    cases h2.rep
    obtain ⟨r, hr, hrel⟩ := hz y
    refine ⟨_, r, rfl, rfl, hr, _, rfl, ?_⟩
    have e3 : (!(kds.lookup y).isSome) = b := D.bl.inj (Option.some.inj hd2)
    rw [rel_some hrel, e3]
    exact hQ _ s
  | _ => cases hd2

/-! ### products -/
variable {a b : Expr} {fa fb : En → Option D} {ka kb : Kd}
def muD : D → D → Option D
  | .int i, .int j => if i.natAbs < 18446744073709551616 ∨ j.natAbs < 18446744073709551616 then some (.int (i * j)) else none
  | .tup xs, .int k => if xs ≠ [] ∧ 1 ≤ k ∧ k.natAbs ≤ 1000 ∧ xs.length ≤ 1000 then some (.tup (List.replicate k.toNat xs).flatten) else none
  | _, _ => none
theorem s_mul (ha : SP X Γ a fa ka) (hb : SP X Γ b fb kb) : SP X Γ (.BinOp a .Mult b pos) (b2 fa fb muD) (Kd.nt ka.clean) := by
  obtain ⟨ta, pa, qa⟩ := ha.ex
  obtain ⟨tb, pb, qb⟩ := hb.ex
  refine ⟨_, pe_op (op_mul.or (op_repT.or op_repT1)) pa pb, fun σ H Q env fp Z d E hf hQ => ?_⟩
  obtain ⟨x, y, hx, hy, hd⟩ := bind2 hf
  refine two qa qb E hx hy fun v w H' s h1 h2 => ?_
  cases y with
  | int j =>
    cases h2.rep
    cases x with
    | int i =>
      cases h1.rep
      simp only [muD] at hd
      split at hd
      · rename_i c
        cases hd
        exact .inl ⟨_, _, rfl, rfl, by unfold CMul; omega, hQ _ _ s (nt_of (.int _))⟩
      · cases hd
    | tup xs =>
      simp only [muD] at hd
      split at hd
      · rename_i c
        cases hd
        obtain ⟨c1, c2, c3, c4⟩ := c
        obtain ⟨p1, us, rfl, l1, r1⟩ := id h1.tup
        by_cases c5 : j = 1
        · subst c5
          refine .inr (.inr ⟨_, _, rfl, rfl, l1, hQ _ _ s ?_⟩)
          have e : (List.replicate (1 : Int).toNat xs).flatten = xs := by simp
          rw [e]
          exact h1.pass
        · refine .inr (.inl ⟨_, _, _, rfl, rfl, l1, fun z => c1 ?_, by omega, by omega, by rw [r1.length]; exact c4, fun p hp => hQ _ _ (s.trans (Sub.upd hp)) (new_tup E s hp (r1.rep _))⟩)
          exact List.eq_nil_of_length_eq_zero (by rw [← r1.length, z]; rfl)
      · cases hd
    | _ => cases hd
  | _ => cases x <;> cases hd
def reL : D → D → Option D
  | .lst xs, .int k => if k.natAbs < 9223372036854775808 ∧ xs.length * k.toNat ≤ sizeLine then some (.lst (List.replicate k.toNat xs).flatten) else none
  | _, _ => none
theorem s_repL (ha : SP X Γ a fa ka) (hb : SP X Γ b fb kb) : SP X Γ (.BinOp a .Mult b pos) (b2 fa fb reL) (Kd.nl ka.clean) := by
  obtain ⟨ta, pa, qa⟩ := ha.ex
  obtain ⟨tb, pb, qb⟩ := hb.ex
  refine ⟨_, pe_op op_repS pa pb, fun σ H Q env fp Z d E hf hQ => ?_⟩
  obtain ⟨x, y, hx, hy, hd⟩ := bind2 hf
  refine two qa qb E hx hy fun v w H' s h1 h2 => ?_
  cases y with
  | int j =>
    cases h2.rep
    cases x with
    | lst xs =>
      simp only [reL] at hd
      split at hd
      · rename_i c
        cases hd
        obtain ⟨c1, c3⟩ := c
        obtain ⟨p1, us, rfl, l1, r1⟩ := h1.lst
        exact ⟨_, _, _, rfl, rfl, l1, by omega, by omega, by rw [r1.length]; exact c3, fun p hp => hQ _ _ (s.trans (Sub.upd hp)) (new_list E s hp (r1.rep _))⟩
      · cases hd
    | _ => cases hd
  | _ => cases x <;> cases hd
end
end Py

set_option Elab.async false
set_option linter.all false
set_option maxRecDepth 100000
set_option maxHeartbeats 4000000
/-! Own layer: what is never reached, calls with own arguments, dicts. -/
namespace Py
open PySem PySem.Spec PyProof.Rows L2

/-! ### bodies that never go on -/
def Nnx (f : SE) : Prop := ∀ ds e, f ds ≠ some (.nx, e)
theorem nnx_rt {m : IE} : Nnx (qRt m) := fun ds e h => by
  unfold qRt at h
  split at h <;> cases h
theorem nnx_q1 {f g : SE} (h : Nnx g) : Nnx (q1 f g) := fun ds e z => by
  rcases q1_ok z with ⟨e1, _, h2⟩ | ⟨_, h2⟩
  · exact h e1 e h2
  · exact h2 rfl
theorem nnx_if {t : En → Option Bool} {f g : SE} (h1 : Nnx f) (h2 : Nnx g) : Nnx (qIf t f g) := fun ds e z => by
  unfold qIf at z
  split at z
  · exact h1 ds e z
  · exact h2 ds e z
  · cases z
def qN : SE := fun _ => none
theorem nnx_never : Nnx qN := fun _ _ h => nomatch h
section
variable {X : Cx} {xc : Nat → Addr} {W : WX} {np : Nat} {Γ : List Sh} {rk : Kd} {st : Stmt}
theorem qs_never : SS X xc W np Γ rk st qN := ⟨_, ps_never, fun D σ H env fp Z fl env' E hf hQ => nomatch hf⟩
end

/-! ### blocks -/
def blkB (N : List Str) (sc scope : Scope) (own : List (Str × Nat)) : Bool :=
  decide (scope.kind = .function) && (scope.names.all (fun y => decide (scope.names.lookup y.1 = some y.2)) && (own.all (fun p => decide (N[p.2]? = some p.1)) &&
    scope.names.all fun y => match y.2 with
      | .free => decide (sc.names.lookup y.1 = some .cell) || decide (sc.names.lookup y.1 = some .free)
      | .local => decide (y.1 ∈ own.map (·.1)) || decide (y.1 ∉ N)
      | .cell => decide (y.1 ∈ own.map (·.1)) || decide (y.1 ∉ N)
      | _ => true))
theorem blkB_ok {N : List Str} {sc scope : Scope} {own : List (Str × Nat)} (h : blkB N sc scope own = true) : BlkOk N sc scope own := by
  obtain ⟨h1, h⟩ := Bool.and_eq_true_iff.mp h
  obtain ⟨h2, h⟩ := Bool.and_eq_true_iff.mp h
  obtain ⟨h3, h4⟩ := Bool.and_eq_true_iff.mp h
  refine ⟨of_decide_eq_true h1, fun y hy => of_decide_eq_true (List.all_eq_true.mp h2 y hy), fun p hp => of_decide_eq_true (List.all_eq_true.mp h3 p hp), fun y hy e => ?_, fun y hy e => ?_⟩
  · have z := List.all_eq_true.mp h4 y hy
    rw [e] at z
    rcases Bool.or_eq_true_iff.mp z with z | z
    · exact .inl (of_decide_eq_true z)
    · exact .inr (of_decide_eq_true z)
  · have z := List.all_eq_true.mp h4 y hy
    have z2 : (decide (y.1 ∈ own.map (·.1)) || decide (y.1 ∉ N)) = true := by
      rcases e with e | e <;> (rw [e] at z; exact z)
    rcases Bool.or_eq_true_iff.mp z2 with z | z
    · exact .inl (of_decide_eq_true z)
    · exact .inr (of_decide_eq_true z)
theorem hG {Γ : List Sh} {own : List Nat} (h : own.all (fun i => decide (i < Γ.length)) = true) : ∀ i ∈ own, ∃ s, Γ[i]? = some s := fun i hi =>
  ⟨_, List.getElem?_eq_getElem (of_decide_eq_true (List.all_eq_true.mp h i hi))⟩

/-! ### changes of kind; signs -/
section
variable {X : Cx} {Γ Γp : List Sh} {rk : Kd} {a b c e : Expr} {es : List Expr} {fa fb f : En → Option D} {fs : En → Option (List D)} {ka kb k : Kd} {ks : List Kd} {pos p2 p3 : Pos} {F : DF} {dfl : List D} {x : Str} {ps : List Str} {j kk : Nat} {xc : Nat → Addr}
theorem sk (k' : Kd) (h : SP X Γ e f k) (hk : k = k' := by rfl) : SP X Γ e f k' := hk ▸ h
def imD (d : D) : Option D := if d.imm = true then some d else none
theorem s_imm (h : SP X Γ e f k) : SP X Γ e (b1 f imD) .u := by
  obtain ⟨t, p, q⟩ := h.ex
  refine ⟨t, p, fun σ H Q env fp Z d E hf hQ => ?_⟩
  obtain ⟨y, hy, hd⟩ := bind1 hf
  unfold imD at hd
  split at hd
  · rename_i c
    cases hd
    exact q σ H Q env fp Z _ E hy fun v H' s hk => hQ v H' s (Rep.imm (E.same s).nt hk.rep c)
  · cases hd
def ngI : D → Option D
  | .int i => some (.int (-i))
  | _ => none
theorem s_neg (h : SP X Γ e f k) : SP X Γ (.UnaryOp .USub e pos) (b1 f ngI) .u := by
  obtain ⟨t, p, q⟩ := h.ex
  refine ⟨_, pe_un un_neg p, fun σ H Q env fp Z d E hf hQ => ?_⟩
  obtain ⟨y, hy, hd⟩ := bind1 hf
  refine q σ H _ env fp Z y E hy fun v H' s hk => ?_
  cases y with
  | int i =>
    cases hd
    cases hk.rep
    exact ⟨_, rfl, hQ _ _ s (.int _)⟩
  | _ => cases hd
/-! a call with what is owned, for reading -/
theorem s_callW (h : Df X.prog X.w X.K X.mg X.base xc j x ps Γp rk F dfl) (hr : Room kk X.A) (ha : SAs X Γ (e :: es) fs ks) (hj : j ≤ kk := by decide) (hgl : Gl X x := by rfl) (hf : Γp.all Sh.isF = true := by rfl) (hrk : rk.cu = true := by rfl) (hlen : Γp.length = ks.length + dfl.length := by rfl)
    (hdb : (x == ("__debug__" : Str)) = false := by decide) (he : starEach (e :: es) X.env = (false, eval e X.env) :: starEach es X.env := by rfl) (hpl : (backTo pos (starEach es X.env)).any (·.1) = false := by rfl) {W0 : WX} (tk : Takes X W0 := by first | assumption | exact takes0) : SP X Γ (.Call (.Name x p2) (e :: es) [] pos) (bA fs (cD F dfl)) .t := by
  obtain ⟨f, fd, dv, hm, G, kp, hb, hd, hfl⟩ := h.ex
  obtain ⟨t, p, q⟩ := ha.ex
  refine ⟨_, pe_callSD G (hr.mono hj) hgl hm kp hb hd (fun σ => passAt tk σ) p hdb he hpl, fun σ H Q env fp Z d E hF hQ => ?_⟩
  obtain ⟨ds, hds, hd'⟩ := Option.bind_eq_some_iff.mp hF
  refine q σ H _ env fp Z ds E hds fun vs H1 s1 h1 => ?_
  unfold cD at hd'
  split at hd'
  · rename_i d1 os hF1
    cases hd'
    have hlk : ∀ {ks : List Kd} {vs : List V} {ds : List D}, HKs X.K H fp Z H1 ks vs ds → ks.length = ds.length := fun h => by
      induction h with
      | nil => rfl
      | cons _ _ ih => simp [ih]
    have hl2 := hlk h1
    refine ⟨ds ++ dfl, [], [], _, _, EOk.args hf (by rw [hlen, hl2, List.length_append]) ?_ (by simp), hF1, fun H' f' Eo x => ?_⟩
    · have r : Reps X.K (hid [] H1) vs ds := h1.reps.mono fun b o h => by rw [hid_of (O := []) (by simp)]; exact h
      exact r.append (Reps.flats hfl)
    · intro v hv
      exact hQ v H' (s1.trans fun b o h => x.keep b o h (by simp)) (hv.hk.rep)
  · cases hd'
end
end Py

set_option Elab.async false
set_option linter.all false
set_option maxRecDepth 100000
set_option maxHeartbeats 4000000
/-! Own layer: the end. -/
namespace Py
open PySem PySem.Spec PyProof.Rows L2
def spLaw (K : PySem.W.Frag) : Sp := fun vs H Q _ => ∃ (a : Addr) (ns : List Int), vs = [.ref a] ∧ ns.length ≤ 63 ∧ SqL K H a (ns.map V.int) ∧ ∀ H', Q (.bl true) H'
theorem law_sp {K : PySem.W.Frag} {xc : Nat → Addr} {F : DF} (pure : ∀ ns : List Int, ns.length ≤ 63 → F [.lst (ns.map .int)] = some (.rt (.bl true), [])) : ∀ vs H Q E, spLaw K vs H Q E → spD K xc [.fz] .u F vs H Q E := by
  rintro vs H Q E ⟨a, ns, rfl, hl, hs, hQ⟩
  refine ⟨[.lst (ns.map .int)], [], [], _, _, EOk.args (O := []) rfl rfl ?_ (by simp), pure ns hl, fun H' fp' _ _ v hv => ?_⟩
  · have hs' : SqL K (hid [] H) a (ns.map V.int) := by
      have e : hid [] H = H := funext fun b => hid_of (O := []) (by simp)
      rw [e]
      exact hs
    exact .cons (.lst hs' Reps.ofInts) .nil
  · have r : Rep K (hid (fp' ++ []) H') v (.bl true) := hv
    cases r
    exact hQ H'
theorem law_ok {P : Program} {w : World} {K : PySem.W.Frag} {mg : Str → Option Value} {base : Heap} {CX : CXT} {k : Nat} {f : Addr} {fd : FuncData} {ps : List Str} {xc : Nat → Addr} {F : DF} (h : FnOk P w K mg base CX k f fd ps (spD K xc [.fz] .u F)) (pure : ∀ ns : List Int, ns.length ≤ 63 → F [.lst (ns.map .int)] = some (.rt (.bl true), [])) : FnOk P w K mg base CX k f fd ps (spLaw K) :=
  h.imp (law_sp pure)
theorem noX {P : Program} {w : World} : ∀ (H : Hp) (s : Shared) (e : Value) (s' : Shared), L2.CX P w [] H s (fun _ _ _ => False) e s' → False := fun _ _ _ _ ⟨_, _, _, _, _, _, _, _, _, _, _, _, z⟩ => z
/-- the walk, where what a callee may let out hangs on the world -/
theorem walk_ofW {l : PySem.W.OpenLaw} {n k : Nat} {q : Program} {loose : List Str} {XP : (Str → Option Value) → Heap → Prop} {YP : World → Heap → Prop} {d : DefRec} {x : Str}
    (hn : l.most = some n) (hn2 : n ≤ sizeLine) (hdf : d.params.defaults = []) (hr : Room k callerA)
    (F : ∀ (w : World) (mg : Str → Option Value) (fa : Addr) (h : Heap), YP w h → h.Ns mainGlobals mg → mg d.name = some (.ref fa) →
      ∃ (K : PySem.W.Frag) (fd : FuncData) (sp : Sp), K.In h ∧ (∀ (s : Shared) (u : Value), BindsTo s fd ⟨[u], []⟩ [(x, u)]) ∧
        (∀ (H : Hp) (a : Addr) (ns : List Int), ns.length ≤ n → Only H → SqL K H a (ns.map V.int) → sp [.ref a] H (fun v _ => v = .bl true) fun _ _ _ => False) ∧
        ∀ base : Heap, K.In base → base.Ns mainGlobals mg → FnOk l.prog w K mg base (L2.CX l.prog w) k fa fd [x] sp) :
    PySem.W.WalkO q loose XP YP l.row.toRowW d [] (fun f vs => PySem.call f vs) := by
  refine Att.attach_call hn hdf fun w s0 s1 mg mb fa o pm cd doc a vs ns G Y ho hd hcd hmg hobj hints hlen hg => ?_
  obtain ⟨K, fd, sp, KX, hb, hsp, hF⟩ := F w mg fa _ Y G.T.g hmg
  exact law_call KX G.T.g G.T.b G.T.builtins G.T.nolimit hg hobj hints (Nat.le_trans hlen hn2) hr hF hb (fun H hO hS => hsp H a ns hlen hO hS) fun H e s' => noX H s1 e s'
end Py

set_option Elab.async false
set_option linter.all false
set_option maxRecDepth 100000
set_option maxHeartbeats 4000000
/-! Own layer: the pure functions reckoned. -/
namespace Py
open PySem PySem.Spec PyProof.Rows L2

theorem vr0 {x0 : Option D} {e : En} : vr 0 (x0 :: e) = x0 := rfl
theorem vr1 {x0 x1 : Option D} {e : En} : vr 1 (x0 :: x1 :: e) = x1 := rfl
theorem vr2 {x0 x1 x2 : Option D} {e : En} : vr 2 (x0 :: x1 :: x2 :: e) = x2 := rfl
theorem vr3 {x0 x1 x2 x3 : Option D} {e : En} : vr 3 (x0 :: x1 :: x2 :: x3 :: e) = x3 := rfl
theorem vr4 {x0 x1 x2 x3 x4 : Option D} {e : En} : vr 4 (x0 :: x1 :: x2 :: x3 :: x4 :: e) = x4 := rfl
theorem vr5 {x0 x1 x2 x3 x4 x5 : Option D} {e : En} : vr 5 (x0 :: x1 :: x2 :: x3 :: x4 :: x5 :: e) = x5 := rfl
theorem vr6 {x0 x1 x2 x3 x4 x5 x6 : Option D} {e : En} : vr 6 (x0 :: x1 :: x2 :: x3 :: x4 :: x5 :: x6 :: e) = x6 := rfl
theorem vr7 {x0 x1 x2 x3 x4 x5 x6 x7 : Option D} {e : En} : vr 7 (x0 :: x1 :: x2 :: x3 :: x4 :: x5 :: x6 :: x7 :: e) = x7 := rfl
theorem vr8 {x0 x1 x2 x3 x4 x5 x6 x7 x8 : Option D} {e : En} : vr 8 (x0 :: x1 :: x2 :: x3 :: x4 :: x5 :: x6 :: x7 :: x8 :: e) = x8 := rfl
theorem vr9 {x0 x1 x2 x3 x4 x5 x6 x7 x8 x9 : Option D} {e : En} : vr 9 (x0 :: x1 :: x2 :: x3 :: x4 :: x5 :: x6 :: x7 :: x8 :: x9 :: e) = x9 := rfl
theorem vr10 {x0 x1 x2 x3 x4 x5 x6 x7 x8 x9 x10 : Option D} {e : En} : vr 10 (x0 :: x1 :: x2 :: x3 :: x4 :: x5 :: x6 :: x7 :: x8 :: x9 :: x10 :: e) = x10 := rfl
theorem vr11 {x0 x1 x2 x3 x4 x5 x6 x7 x8 x9 x10 x11 : Option D} {e : En} : vr 11 (x0 :: x1 :: x2 :: x3 :: x4 :: x5 :: x6 :: x7 :: x8 :: x9 :: x10 :: x11 :: e) = x11 := rfl
theorem vr12 {x0 x1 x2 x3 x4 x5 x6 x7 x8 x9 x10 x11 x12 : Option D} {e : En} : vr 12 (x0 :: x1 :: x2 :: x3 :: x4 :: x5 :: x6 :: x7 :: x8 :: x9 :: x10 :: x11 :: x12 :: e) = x12 := rfl
theorem vr13 {x0 x1 x2 x3 x4 x5 x6 x7 x8 x9 x10 x11 x12 x13 : Option D} {e : En} : vr 13 (x0 :: x1 :: x2 :: x3 :: x4 :: x5 :: x6 :: x7 :: x8 :: x9 :: x10 :: x11 :: x12 :: x13 :: e) = x13 := rfl
theorem vr14 {x0 x1 x2 x3 x4 x5 x6 x7 x8 x9 x10 x11 x12 x13 x14 : Option D} {e : En} : vr 14 (x0 :: x1 :: x2 :: x3 :: x4 :: x5 :: x6 :: x7 :: x8 :: x9 :: x10 :: x11 :: x12 :: x13 :: x14 :: e) = x14 := rfl
theorem vr15 {x0 x1 x2 x3 x4 x5 x6 x7 x8 x9 x10 x11 x12 x13 x14 x15 : Option D} {e : En} : vr 15 (x0 :: x1 :: x2 :: x3 :: x4 :: x5 :: x6 :: x7 :: x8 :: x9 :: x10 :: x11 :: x12 :: x13 :: x14 :: x15 :: e) = x15 := rfl
theorem vr16 {x0 x1 x2 x3 x4 x5 x6 x7 x8 x9 x10 x11 x12 x13 x14 x15 x16 : Option D} {e : En} : vr 16 (x0 :: x1 :: x2 :: x3 :: x4 :: x5 :: x6 :: x7 :: x8 :: x9 :: x10 :: x11 :: x12 :: x13 :: x14 :: x15 :: x16 :: e) = x16 := rfl
theorem vr17 {x0 x1 x2 x3 x4 x5 x6 x7 x8 x9 x10 x11 x12 x13 x14 x15 x16 x17 : Option D} {e : En} : vr 17 (x0 :: x1 :: x2 :: x3 :: x4 :: x5 :: x6 :: x7 :: x8 :: x9 :: x10 :: x11 :: x12 :: x13 :: x14 :: x15 :: x16 :: x17 :: e) = x17 := rfl
theorem vr18 {x0 x1 x2 x3 x4 x5 x6 x7 x8 x9 x10 x11 x12 x13 x14 x15 x16 x17 x18 : Option D} {e : En} : vr 18 (x0 :: x1 :: x2 :: x3 :: x4 :: x5 :: x6 :: x7 :: x8 :: x9 :: x10 :: x11 :: x12 :: x13 :: x14 :: x15 :: x16 :: x17 :: x18 :: e) = x18 := rfl
theorem vr19 {x0 x1 x2 x3 x4 x5 x6 x7 x8 x9 x10 x11 x12 x13 x14 x15 x16 x17 x18 x19 : Option D} {e : En} : vr 19 (x0 :: x1 :: x2 :: x3 :: x4 :: x5 :: x6 :: x7 :: x8 :: x9 :: x10 :: x11 :: x12 :: x13 :: x14 :: x15 :: x16 :: x17 :: x18 :: x19 :: e) = x19 := rfl
theorem vr20 {x0 x1 x2 x3 x4 x5 x6 x7 x8 x9 x10 x11 x12 x13 x14 x15 x16 x17 x18 x19 x20 : Option D} {e : En} : vr 20 (x0 :: x1 :: x2 :: x3 :: x4 :: x5 :: x6 :: x7 :: x8 :: x9 :: x10 :: x11 :: x12 :: x13 :: x14 :: x15 :: x16 :: x17 :: x18 :: x19 :: x20 :: e) = x20 := rfl
theorem vr21 {x0 x1 x2 x3 x4 x5 x6 x7 x8 x9 x10 x11 x12 x13 x14 x15 x16 x17 x18 x19 x20 x21 : Option D} {e : En} : vr 21 (x0 :: x1 :: x2 :: x3 :: x4 :: x5 :: x6 :: x7 :: x8 :: x9 :: x10 :: x11 :: x12 :: x13 :: x14 :: x15 :: x16 :: x17 :: x18 :: x19 :: x20 :: x21 :: e) = x21 := rfl
theorem vr22 {x0 x1 x2 x3 x4 x5 x6 x7 x8 x9 x10 x11 x12 x13 x14 x15 x16 x17 x18 x19 x20 x21 x22 : Option D} {e : En} : vr 22 (x0 :: x1 :: x2 :: x3 :: x4 :: x5 :: x6 :: x7 :: x8 :: x9 :: x10 :: x11 :: x12 :: x13 :: x14 :: x15 :: x16 :: x17 :: x18 :: x19 :: x20 :: x21 :: x22 :: e) = x22 := rfl
theorem vr23 {x0 x1 x2 x3 x4 x5 x6 x7 x8 x9 x10 x11 x12 x13 x14 x15 x16 x17 x18 x19 x20 x21 x22 x23 : Option D} {e : En} : vr 23 (x0 :: x1 :: x2 :: x3 :: x4 :: x5 :: x6 :: x7 :: x8 :: x9 :: x10 :: x11 :: x12 :: x13 :: x14 :: x15 :: x16 :: x17 :: x18 :: x19 :: x20 :: x21 :: x22 :: x23 :: e) = x23 := rfl
theorem put0 {x0 : Option D} {e : En} {d : D} : Py.put 0 d (x0 :: e) = some (some d :: e) := by unfold Py.put; rw [if_pos (by simp only [List.length_cons]; omega)]; rfl
theorem put1 {x0 x1 : Option D} {e : En} {d : D} : Py.put 1 d (x0 :: x1 :: e) = some (x0 :: some d :: e) := by unfold Py.put; rw [if_pos (by simp only [List.length_cons]; omega)]; rfl
theorem put2 {x0 x1 x2 : Option D} {e : En} {d : D} : Py.put 2 d (x0 :: x1 :: x2 :: e) = some (x0 :: x1 :: some d :: e) := by unfold Py.put; rw [if_pos (by simp only [List.length_cons]; omega)]; rfl
theorem put3 {x0 x1 x2 x3 : Option D} {e : En} {d : D} : Py.put 3 d (x0 :: x1 :: x2 :: x3 :: e) = some (x0 :: x1 :: x2 :: some d :: e) := by unfold Py.put; rw [if_pos (by simp only [List.length_cons]; omega)]; rfl
theorem put4 {x0 x1 x2 x3 x4 : Option D} {e : En} {d : D} : Py.put 4 d (x0 :: x1 :: x2 :: x3 :: x4 :: e) = some (x0 :: x1 :: x2 :: x3 :: some d :: e) := by unfold Py.put; rw [if_pos (by simp only [List.length_cons]; omega)]; rfl
theorem put5 {x0 x1 x2 x3 x4 x5 : Option D} {e : En} {d : D} : Py.put 5 d (x0 :: x1 :: x2 :: x3 :: x4 :: x5 :: e) = some (x0 :: x1 :: x2 :: x3 :: x4 :: some d :: e) := by unfold Py.put; rw [if_pos (by simp only [List.length_cons]; omega)]; rfl
theorem put6 {x0 x1 x2 x3 x4 x5 x6 : Option D} {e : En} {d : D} : Py.put 6 d (x0 :: x1 :: x2 :: x3 :: x4 :: x5 :: x6 :: e) = some (x0 :: x1 :: x2 :: x3 :: x4 :: x5 :: some d :: e) := by unfold Py.put; rw [if_pos (by simp only [List.length_cons]; omega)]; rfl
theorem put7 {x0 x1 x2 x3 x4 x5 x6 x7 : Option D} {e : En} {d : D} : Py.put 7 d (x0 :: x1 :: x2 :: x3 :: x4 :: x5 :: x6 :: x7 :: e) = some (x0 :: x1 :: x2 :: x3 :: x4 :: x5 :: x6 :: some d :: e) := by unfold Py.put; rw [if_pos (by simp only [List.length_cons]; omega)]; rfl
theorem put8 {x0 x1 x2 x3 x4 x5 x6 x7 x8 : Option D} {e : En} {d : D} : Py.put 8 d (x0 :: x1 :: x2 :: x3 :: x4 :: x5 :: x6 :: x7 :: x8 :: e) = some (x0 :: x1 :: x2 :: x3 :: x4 :: x5 :: x6 :: x7 :: some d :: e) := by unfold Py.put; rw [if_pos (by simp only [List.length_cons]; omega)]; rfl
theorem put9 {x0 x1 x2 x3 x4 x5 x6 x7 x8 x9 : Option D} {e : En} {d : D} : Py.put 9 d (x0 :: x1 :: x2 :: x3 :: x4 :: x5 :: x6 :: x7 :: x8 :: x9 :: e) = some (x0 :: x1 :: x2 :: x3 :: x4 :: x5 :: x6 :: x7 :: x8 :: some d :: e) := by unfold Py.put; rw [if_pos (by simp only [List.length_cons]; omega)]; rfl
theorem put10 {x0 x1 x2 x3 x4 x5 x6 x7 x8 x9 x10 : Option D} {e : En} {d : D} : Py.put 10 d (x0 :: x1 :: x2 :: x3 :: x4 :: x5 :: x6 :: x7 :: x8 :: x9 :: x10 :: e) = some (x0 :: x1 :: x2 :: x3 :: x4 :: x5 :: x6 :: x7 :: x8 :: x9 :: some d :: e) := by unfold Py.put; rw [if_pos (by simp only [List.length_cons]; omega)]; rfl
theorem put11 {x0 x1 x2 x3 x4 x5 x6 x7 x8 x9 x10 x11 : Option D} {e : En} {d : D} : Py.put 11 d (x0 :: x1 :: x2 :: x3 :: x4 :: x5 :: x6 :: x7 :: x8 :: x9 :: x10 :: x11 :: e) = some (x0 :: x1 :: x2 :: x3 :: x4 :: x5 :: x6 :: x7 :: x8 :: x9 :: x10 :: some d :: e) := by unfold Py.put; rw [if_pos (by simp only [List.length_cons]; omega)]; rfl
theorem put12 {x0 x1 x2 x3 x4 x5 x6 x7 x8 x9 x10 x11 x12 : Option D} {e : En} {d : D} : Py.put 12 d (x0 :: x1 :: x2 :: x3 :: x4 :: x5 :: x6 :: x7 :: x8 :: x9 :: x10 :: x11 :: x12 :: e) = some (x0 :: x1 :: x2 :: x3 :: x4 :: x5 :: x6 :: x7 :: x8 :: x9 :: x10 :: x11 :: some d :: e) := by unfold Py.put; rw [if_pos (by simp only [List.length_cons]; omega)]; rfl
theorem put13 {x0 x1 x2 x3 x4 x5 x6 x7 x8 x9 x10 x11 x12 x13 : Option D} {e : En} {d : D} : Py.put 13 d (x0 :: x1 :: x2 :: x3 :: x4 :: x5 :: x6 :: x7 :: x8 :: x9 :: x10 :: x11 :: x12 :: x13 :: e) = some (x0 :: x1 :: x2 :: x3 :: x4 :: x5 :: x6 :: x7 :: x8 :: x9 :: x10 :: x11 :: x12 :: some d :: e) := by unfold Py.put; rw [if_pos (by simp only [List.length_cons]; omega)]; rfl
theorem put14 {x0 x1 x2 x3 x4 x5 x6 x7 x8 x9 x10 x11 x12 x13 x14 : Option D} {e : En} {d : D} : Py.put 14 d (x0 :: x1 :: x2 :: x3 :: x4 :: x5 :: x6 :: x7 :: x8 :: x9 :: x10 :: x11 :: x12 :: x13 :: x14 :: e) = some (x0 :: x1 :: x2 :: x3 :: x4 :: x5 :: x6 :: x7 :: x8 :: x9 :: x10 :: x11 :: x12 :: x13 :: some d :: e) := by unfold Py.put; rw [if_pos (by simp only [List.length_cons]; omega)]; rfl
theorem put15 {x0 x1 x2 x3 x4 x5 x6 x7 x8 x9 x10 x11 x12 x13 x14 x15 : Option D} {e : En} {d : D} : Py.put 15 d (x0 :: x1 :: x2 :: x3 :: x4 :: x5 :: x6 :: x7 :: x8 :: x9 :: x10 :: x11 :: x12 :: x13 :: x14 :: x15 :: e) = some (x0 :: x1 :: x2 :: x3 :: x4 :: x5 :: x6 :: x7 :: x8 :: x9 :: x10 :: x11 :: x12 :: x13 :: x14 :: some d :: e) := by unfold Py.put; rw [if_pos (by simp only [List.length_cons]; omega)]; rfl
theorem put16 {x0 x1 x2 x3 x4 x5 x6 x7 x8 x9 x10 x11 x12 x13 x14 x15 x16 : Option D} {e : En} {d : D} : Py.put 16 d (x0 :: x1 :: x2 :: x3 :: x4 :: x5 :: x6 :: x7 :: x8 :: x9 :: x10 :: x11 :: x12 :: x13 :: x14 :: x15 :: x16 :: e) = some (x0 :: x1 :: x2 :: x3 :: x4 :: x5 :: x6 :: x7 :: x8 :: x9 :: x10 :: x11 :: x12 :: x13 :: x14 :: x15 :: some d :: e) := by unfold Py.put; rw [if_pos (by simp only [List.length_cons]; omega)]; rfl
theorem put17 {x0 x1 x2 x3 x4 x5 x6 x7 x8 x9 x10 x11 x12 x13 x14 x15 x16 x17 : Option D} {e : En} {d : D} : Py.put 17 d (x0 :: x1 :: x2 :: x3 :: x4 :: x5 :: x6 :: x7 :: x8 :: x9 :: x10 :: x11 :: x12 :: x13 :: x14 :: x15 :: x16 :: x17 :: e) = some (x0 :: x1 :: x2 :: x3 :: x4 :: x5 :: x6 :: x7 :: x8 :: x9 :: x10 :: x11 :: x12 :: x13 :: x14 :: x15 :: x16 :: some d :: e) := by unfold Py.put; rw [if_pos (by simp only [List.length_cons]; omega)]; rfl
theorem put18 {x0 x1 x2 x3 x4 x5 x6 x7 x8 x9 x10 x11 x12 x13 x14 x15 x16 x17 x18 : Option D} {e : En} {d : D} : Py.put 18 d (x0 :: x1 :: x2 :: x3 :: x4 :: x5 :: x6 :: x7 :: x8 :: x9 :: x10 :: x11 :: x12 :: x13 :: x14 :: x15 :: x16 :: x17 :: x18 :: e) = some (x0 :: x1 :: x2 :: x3 :: x4 :: x5 :: x6 :: x7 :: x8 :: x9 :: x10 :: x11 :: x12 :: x13 :: x14 :: x15 :: x16 :: x17 :: some d :: e) := by unfold Py.put; rw [if_pos (by simp only [List.length_cons]; omega)]; rfl
theorem put19 {x0 x1 x2 x3 x4 x5 x6 x7 x8 x9 x10 x11 x12 x13 x14 x15 x16 x17 x18 x19 : Option D} {e : En} {d : D} : Py.put 19 d (x0 :: x1 :: x2 :: x3 :: x4 :: x5 :: x6 :: x7 :: x8 :: x9 :: x10 :: x11 :: x12 :: x13 :: x14 :: x15 :: x16 :: x17 :: x18 :: x19 :: e) = some (x0 :: x1 :: x2 :: x3 :: x4 :: x5 :: x6 :: x7 :: x8 :: x9 :: x10 :: x11 :: x12 :: x13 :: x14 :: x15 :: x16 :: x17 :: x18 :: some d :: e) := by unfold Py.put; rw [if_pos (by simp only [List.length_cons]; omega)]; rfl
theorem put20 {x0 x1 x2 x3 x4 x5 x6 x7 x8 x9 x10 x11 x12 x13 x14 x15 x16 x17 x18 x19 x20 : Option D} {e : En} {d : D} : Py.put 20 d (x0 :: x1 :: x2 :: x3 :: x4 :: x5 :: x6 :: x7 :: x8 :: x9 :: x10 :: x11 :: x12 :: x13 :: x14 :: x15 :: x16 :: x17 :: x18 :: x19 :: x20 :: e) = some (x0 :: x1 :: x2 :: x3 :: x4 :: x5 :: x6 :: x7 :: x8 :: x9 :: x10 :: x11 :: x12 :: x13 :: x14 :: x15 :: x16 :: x17 :: x18 :: x19 :: some d :: e) := by unfold Py.put; rw [if_pos (by simp only [List.length_cons]; omega)]; rfl
theorem put21 {x0 x1 x2 x3 x4 x5 x6 x7 x8 x9 x10 x11 x12 x13 x14 x15 x16 x17 x18 x19 x20 x21 : Option D} {e : En} {d : D} : Py.put 21 d (x0 :: x1 :: x2 :: x3 :: x4 :: x5 :: x6 :: x7 :: x8 :: x9 :: x10 :: x11 :: x12 :: x13 :: x14 :: x15 :: x16 :: x17 :: x18 :: x19 :: x20 :: x21 :: e) = some (x0 :: x1 :: x2 :: x3 :: x4 :: x5 :: x6 :: x7 :: x8 :: x9 :: x10 :: x11 :: x12 :: x13 :: x14 :: x15 :: x16 :: x17 :: x18 :: x19 :: x20 :: some d :: e) := by unfold Py.put; rw [if_pos (by simp only [List.length_cons]; omega)]; rfl
theorem put22 {x0 x1 x2 x3 x4 x5 x6 x7 x8 x9 x10 x11 x12 x13 x14 x15 x16 x17 x18 x19 x20 x21 x22 : Option D} {e : En} {d : D} : Py.put 22 d (x0 :: x1 :: x2 :: x3 :: x4 :: x5 :: x6 :: x7 :: x8 :: x9 :: x10 :: x11 :: x12 :: x13 :: x14 :: x15 :: x16 :: x17 :: x18 :: x19 :: x20 :: x21 :: x22 :: e) = some (x0 :: x1 :: x2 :: x3 :: x4 :: x5 :: x6 :: x7 :: x8 :: x9 :: x10 :: x11 :: x12 :: x13 :: x14 :: x15 :: x16 :: x17 :: x18 :: x19 :: x20 :: x21 :: some d :: e) := by unfold Py.put; rw [if_pos (by simp only [List.length_cons]; omega)]; rfl
theorem put23 {x0 x1 x2 x3 x4 x5 x6 x7 x8 x9 x10 x11 x12 x13 x14 x15 x16 x17 x18 x19 x20 x21 x22 x23 : Option D} {e : En} {d : D} : Py.put 23 d (x0 :: x1 :: x2 :: x3 :: x4 :: x5 :: x6 :: x7 :: x8 :: x9 :: x10 :: x11 :: x12 :: x13 :: x14 :: x15 :: x16 :: x17 :: x18 :: x19 :: x20 :: x21 :: x22 :: x23 :: e) = some (x0 :: x1 :: x2 :: x3 :: x4 :: x5 :: x6 :: x7 :: x8 :: x9 :: x10 :: x11 :: x12 :: x13 :: x14 :: x15 :: x16 :: x17 :: x18 :: x19 :: x20 :: x21 :: x22 :: some d :: e) := by unfold Py.put; rw [if_pos (by simp only [List.length_cons]; omega)]; rfl
theorem onL0 {e : En} {xs : List D} {g : List D → Option (List D)} : onL 0 g (some (.lst xs) :: e) = (g xs).map fun ys => some (.lst ys) :: e := rfl
theorem isL0 {e : En} {xs : List D} : isL 0 (some (.lst xs) :: e) = true := rfl
theorem mv0 {e : En} {d : D} : mv 0 (some d :: e) = some (.ok d, none :: e) := rfl
theorem onL1 {x0 : Option D} {e : En} {xs : List D} {g : List D → Option (List D)} : onL 1 g (x0 :: some (.lst xs) :: e) = (g xs).map fun ys => x0 :: some (.lst ys) :: e := rfl
theorem isL1 {x0 : Option D} {e : En} {xs : List D} : isL 1 (x0 :: some (.lst xs) :: e) = true := rfl
theorem mv1 {x0 : Option D} {e : En} {d : D} : mv 1 (x0 :: some d :: e) = some (.ok d, x0 :: none :: e) := rfl
theorem onL2 {x0 x1 : Option D} {e : En} {xs : List D} {g : List D → Option (List D)} : onL 2 g (x0 :: x1 :: some (.lst xs) :: e) = (g xs).map fun ys => x0 :: x1 :: some (.lst ys) :: e := rfl
theorem isL2 {x0 x1 : Option D} {e : En} {xs : List D} : isL 2 (x0 :: x1 :: some (.lst xs) :: e) = true := rfl
theorem mv2 {x0 x1 : Option D} {e : En} {d : D} : mv 2 (x0 :: x1 :: some d :: e) = some (.ok d, x0 :: x1 :: none :: e) := rfl
theorem onL3 {x0 x1 x2 : Option D} {e : En} {xs : List D} {g : List D → Option (List D)} : onL 3 g (x0 :: x1 :: x2 :: some (.lst xs) :: e) = (g xs).map fun ys => x0 :: x1 :: x2 :: some (.lst ys) :: e := rfl
theorem isL3 {x0 x1 x2 : Option D} {e : En} {xs : List D} : isL 3 (x0 :: x1 :: x2 :: some (.lst xs) :: e) = true := rfl
theorem mv3 {x0 x1 x2 : Option D} {e : En} {d : D} : mv 3 (x0 :: x1 :: x2 :: some d :: e) = some (.ok d, x0 :: x1 :: x2 :: none :: e) := rfl
theorem onL4 {x0 x1 x2 x3 : Option D} {e : En} {xs : List D} {g : List D → Option (List D)} : onL 4 g (x0 :: x1 :: x2 :: x3 :: some (.lst xs) :: e) = (g xs).map fun ys => x0 :: x1 :: x2 :: x3 :: some (.lst ys) :: e := rfl
theorem isL4 {x0 x1 x2 x3 : Option D} {e : En} {xs : List D} : isL 4 (x0 :: x1 :: x2 :: x3 :: some (.lst xs) :: e) = true := rfl
theorem mv4 {x0 x1 x2 x3 : Option D} {e : En} {d : D} : mv 4 (x0 :: x1 :: x2 :: x3 :: some d :: e) = some (.ok d, x0 :: x1 :: x2 :: x3 :: none :: e) := rfl
theorem onL5 {x0 x1 x2 x3 x4 : Option D} {e : En} {xs : List D} {g : List D → Option (List D)} : onL 5 g (x0 :: x1 :: x2 :: x3 :: x4 :: some (.lst xs) :: e) = (g xs).map fun ys => x0 :: x1 :: x2 :: x3 :: x4 :: some (.lst ys) :: e := rfl
theorem isL5 {x0 x1 x2 x3 x4 : Option D} {e : En} {xs : List D} : isL 5 (x0 :: x1 :: x2 :: x3 :: x4 :: some (.lst xs) :: e) = true := rfl
theorem mv5 {x0 x1 x2 x3 x4 : Option D} {e : En} {d : D} : mv 5 (x0 :: x1 :: x2 :: x3 :: x4 :: some d :: e) = some (.ok d, x0 :: x1 :: x2 :: x3 :: x4 :: none :: e) := rfl
theorem onL6 {x0 x1 x2 x3 x4 x5 : Option D} {e : En} {xs : List D} {g : List D → Option (List D)} : onL 6 g (x0 :: x1 :: x2 :: x3 :: x4 :: x5 :: some (.lst xs) :: e) = (g xs).map fun ys => x0 :: x1 :: x2 :: x3 :: x4 :: x5 :: some (.lst ys) :: e := rfl
theorem isL6 {x0 x1 x2 x3 x4 x5 : Option D} {e : En} {xs : List D} : isL 6 (x0 :: x1 :: x2 :: x3 :: x4 :: x5 :: some (.lst xs) :: e) = true := rfl
theorem mv6 {x0 x1 x2 x3 x4 x5 : Option D} {e : En} {d : D} : mv 6 (x0 :: x1 :: x2 :: x3 :: x4 :: x5 :: some d :: e) = some (.ok d, x0 :: x1 :: x2 :: x3 :: x4 :: x5 :: none :: e) := rfl
theorem onL7 {x0 x1 x2 x3 x4 x5 x6 : Option D} {e : En} {xs : List D} {g : List D → Option (List D)} : onL 7 g (x0 :: x1 :: x2 :: x3 :: x4 :: x5 :: x6 :: some (.lst xs) :: e) = (g xs).map fun ys => x0 :: x1 :: x2 :: x3 :: x4 :: x5 :: x6 :: some (.lst ys) :: e := rfl
theorem isL7 {x0 x1 x2 x3 x4 x5 x6 : Option D} {e : En} {xs : List D} : isL 7 (x0 :: x1 :: x2 :: x3 :: x4 :: x5 :: x6 :: some (.lst xs) :: e) = true := rfl
theorem mv7 {x0 x1 x2 x3 x4 x5 x6 : Option D} {e : En} {d : D} : mv 7 (x0 :: x1 :: x2 :: x3 :: x4 :: x5 :: x6 :: some d :: e) = some (.ok d, x0 :: x1 :: x2 :: x3 :: x4 :: x5 :: x6 :: none :: e) := rfl
theorem onL8 {x0 x1 x2 x3 x4 x5 x6 x7 : Option D} {e : En} {xs : List D} {g : List D → Option (List D)} : onL 8 g (x0 :: x1 :: x2 :: x3 :: x4 :: x5 :: x6 :: x7 :: some (.lst xs) :: e) = (g xs).map fun ys => x0 :: x1 :: x2 :: x3 :: x4 :: x5 :: x6 :: x7 :: some (.lst ys) :: e := rfl
theorem isL8 {x0 x1 x2 x3 x4 x5 x6 x7 : Option D} {e : En} {xs : List D} : isL 8 (x0 :: x1 :: x2 :: x3 :: x4 :: x5 :: x6 :: x7 :: some (.lst xs) :: e) = true := rfl
theorem mv8 {x0 x1 x2 x3 x4 x5 x6 x7 : Option D} {e : En} {d : D} : mv 8 (x0 :: x1 :: x2 :: x3 :: x4 :: x5 :: x6 :: x7 :: some d :: e) = some (.ok d, x0 :: x1 :: x2 :: x3 :: x4 :: x5 :: x6 :: x7 :: none :: e) := rfl
theorem onL9 {x0 x1 x2 x3 x4 x5 x6 x7 x8 : Option D} {e : En} {xs : List D} {g : List D → Option (List D)} : onL 9 g (x0 :: x1 :: x2 :: x3 :: x4 :: x5 :: x6 :: x7 :: x8 :: some (.lst xs) :: e) = (g xs).map fun ys => x0 :: x1 :: x2 :: x3 :: x4 :: x5 :: x6 :: x7 :: x8 :: some (.lst ys) :: e := rfl
theorem isL9 {x0 x1 x2 x3 x4 x5 x6 x7 x8 : Option D} {e : En} {xs : List D} : isL 9 (x0 :: x1 :: x2 :: x3 :: x4 :: x5 :: x6 :: x7 :: x8 :: some (.lst xs) :: e) = true := rfl
theorem mv9 {x0 x1 x2 x3 x4 x5 x6 x7 x8 : Option D} {e : En} {d : D} : mv 9 (x0 :: x1 :: x2 :: x3 :: x4 :: x5 :: x6 :: x7 :: x8 :: some d :: e) = some (.ok d, x0 :: x1 :: x2 :: x3 :: x4 :: x5 :: x6 :: x7 :: x8 :: none :: e) := rfl
theorem onL10 {x0 x1 x2 x3 x4 x5 x6 x7 x8 x9 : Option D} {e : En} {xs : List D} {g : List D → Option (List D)} : onL 10 g (x0 :: x1 :: x2 :: x3 :: x4 :: x5 :: x6 :: x7 :: x8 :: x9 :: some (.lst xs) :: e) = (g xs).map fun ys => x0 :: x1 :: x2 :: x3 :: x4 :: x5 :: x6 :: x7 :: x8 :: x9 :: some (.lst ys) :: e := rfl
theorem isL10 {x0 x1 x2 x3 x4 x5 x6 x7 x8 x9 : Option D} {e : En} {xs : List D} : isL 10 (x0 :: x1 :: x2 :: x3 :: x4 :: x5 :: x6 :: x7 :: x8 :: x9 :: some (.lst xs) :: e) = true := rfl
theorem mv10 {x0 x1 x2 x3 x4 x5 x6 x7 x8 x9 : Option D} {e : En} {d : D} : mv 10 (x0 :: x1 :: x2 :: x3 :: x4 :: x5 :: x6 :: x7 :: x8 :: x9 :: some d :: e) = some (.ok d, x0 :: x1 :: x2 :: x3 :: x4 :: x5 :: x6 :: x7 :: x8 :: x9 :: none :: e) := rfl
theorem onL11 {x0 x1 x2 x3 x4 x5 x6 x7 x8 x9 x10 : Option D} {e : En} {xs : List D} {g : List D → Option (List D)} : onL 11 g (x0 :: x1 :: x2 :: x3 :: x4 :: x5 :: x6 :: x7 :: x8 :: x9 :: x10 :: some (.lst xs) :: e) = (g xs).map fun ys => x0 :: x1 :: x2 :: x3 :: x4 :: x5 :: x6 :: x7 :: x8 :: x9 :: x10 :: some (.lst ys) :: e := rfl
theorem isL11 {x0 x1 x2 x3 x4 x5 x6 x7 x8 x9 x10 : Option D} {e : En} {xs : List D} : isL 11 (x0 :: x1 :: x2 :: x3 :: x4 :: x5 :: x6 :: x7 :: x8 :: x9 :: x10 :: some (.lst xs) :: e) = true := rfl
theorem mv11 {x0 x1 x2 x3 x4 x5 x6 x7 x8 x9 x10 : Option D} {e : En} {d : D} : mv 11 (x0 :: x1 :: x2 :: x3 :: x4 :: x5 :: x6 :: x7 :: x8 :: x9 :: x10 :: some d :: e) = some (.ok d, x0 :: x1 :: x2 :: x3 :: x4 :: x5 :: x6 :: x7 :: x8 :: x9 :: x10 :: none :: e) := rfl
theorem onL12 {x0 x1 x2 x3 x4 x5 x6 x7 x8 x9 x10 x11 : Option D} {e : En} {xs : List D} {g : List D → Option (List D)} : onL 12 g (x0 :: x1 :: x2 :: x3 :: x4 :: x5 :: x6 :: x7 :: x8 :: x9 :: x10 :: x11 :: some (.lst xs) :: e) = (g xs).map fun ys => x0 :: x1 :: x2 :: x3 :: x4 :: x5 :: x6 :: x7 :: x8 :: x9 :: x10 :: x11 :: some (.lst ys) :: e := rfl
theorem isL12 {x0 x1 x2 x3 x4 x5 x6 x7 x8 x9 x10 x11 : Option D} {e : En} {xs : List D} : isL 12 (x0 :: x1 :: x2 :: x3 :: x4 :: x5 :: x6 :: x7 :: x8 :: x9 :: x10 :: x11 :: some (.lst xs) :: e) = true := rfl
theorem mv12 {x0 x1 x2 x3 x4 x5 x6 x7 x8 x9 x10 x11 : Option D} {e : En} {d : D} : mv 12 (x0 :: x1 :: x2 :: x3 :: x4 :: x5 :: x6 :: x7 :: x8 :: x9 :: x10 :: x11 :: some d :: e) = some (.ok d, x0 :: x1 :: x2 :: x3 :: x4 :: x5 :: x6 :: x7 :: x8 :: x9 :: x10 :: x11 :: none :: e) := rfl
theorem onL13 {x0 x1 x2 x3 x4 x5 x6 x7 x8 x9 x10 x11 x12 : Option D} {e : En} {xs : List D} {g : List D → Option (List D)} : onL 13 g (x0 :: x1 :: x2 :: x3 :: x4 :: x5 :: x6 :: x7 :: x8 :: x9 :: x10 :: x11 :: x12 :: some (.lst xs) :: e) = (g xs).map fun ys => x0 :: x1 :: x2 :: x3 :: x4 :: x5 :: x6 :: x7 :: x8 :: x9 :: x10 :: x11 :: x12 :: some (.lst ys) :: e := rfl
theorem isL13 {x0 x1 x2 x3 x4 x5 x6 x7 x8 x9 x10 x11 x12 : Option D} {e : En} {xs : List D} : isL 13 (x0 :: x1 :: x2 :: x3 :: x4 :: x5 :: x6 :: x7 :: x8 :: x9 :: x10 :: x11 :: x12 :: some (.lst xs) :: e) = true := rfl
theorem mv13 {x0 x1 x2 x3 x4 x5 x6 x7 x8 x9 x10 x11 x12 : Option D} {e : En} {d : D} : mv 13 (x0 :: x1 :: x2 :: x3 :: x4 :: x5 :: x6 :: x7 :: x8 :: x9 :: x10 :: x11 :: x12 :: some d :: e) = some (.ok d, x0 :: x1 :: x2 :: x3 :: x4 :: x5 :: x6 :: x7 :: x8 :: x9 :: x10 :: x11 :: x12 :: none :: e) := rfl
theorem onL14 {x0 x1 x2 x3 x4 x5 x6 x7 x8 x9 x10 x11 x12 x13 : Option D} {e : En} {xs : List D} {g : List D → Option (List D)} : onL 14 g (x0 :: x1 :: x2 :: x3 :: x4 :: x5 :: x6 :: x7 :: x8 :: x9 :: x10 :: x11 :: x12 :: x13 :: some (.lst xs) :: e) = (g xs).map fun ys => x0 :: x1 :: x2 :: x3 :: x4 :: x5 :: x6 :: x7 :: x8 :: x9 :: x10 :: x11 :: x12 :: x13 :: some (.lst ys) :: e := rfl
theorem isL14 {x0 x1 x2 x3 x4 x5 x6 x7 x8 x9 x10 x11 x12 x13 : Option D} {e : En} {xs : List D} : isL 14 (x0 :: x1 :: x2 :: x3 :: x4 :: x5 :: x6 :: x7 :: x8 :: x9 :: x10 :: x11 :: x12 :: x13 :: some (.lst xs) :: e) = true := rfl
theorem mv14 {x0 x1 x2 x3 x4 x5 x6 x7 x8 x9 x10 x11 x12 x13 : Option D} {e : En} {d : D} : mv 14 (x0 :: x1 :: x2 :: x3 :: x4 :: x5 :: x6 :: x7 :: x8 :: x9 :: x10 :: x11 :: x12 :: x13 :: some d :: e) = some (.ok d, x0 :: x1 :: x2 :: x3 :: x4 :: x5 :: x6 :: x7 :: x8 :: x9 :: x10 :: x11 :: x12 :: x13 :: none :: e) := rfl
theorem onL15 {x0 x1 x2 x3 x4 x5 x6 x7 x8 x9 x10 x11 x12 x13 x14 : Option D} {e : En} {xs : List D} {g : List D → Option (List D)} : onL 15 g (x0 :: x1 :: x2 :: x3 :: x4 :: x5 :: x6 :: x7 :: x8 :: x9 :: x10 :: x11 :: x12 :: x13 :: x14 :: some (.lst xs) :: e) = (g xs).map fun ys => x0 :: x1 :: x2 :: x3 :: x4 :: x5 :: x6 :: x7 :: x8 :: x9 :: x10 :: x11 :: x12 :: x13 :: x14 :: some (.lst ys) :: e := rfl
theorem isL15 {x0 x1 x2 x3 x4 x5 x6 x7 x8 x9 x10 x11 x12 x13 x14 : Option D} {e : En} {xs : List D} : isL 15 (x0 :: x1 :: x2 :: x3 :: x4 :: x5 :: x6 :: x7 :: x8 :: x9 :: x10 :: x11 :: x12 :: x13 :: x14 :: some (.lst xs) :: e) = true := rfl
theorem mv15 {x0 x1 x2 x3 x4 x5 x6 x7 x8 x9 x10 x11 x12 x13 x14 : Option D} {e : En} {d : D} : mv 15 (x0 :: x1 :: x2 :: x3 :: x4 :: x5 :: x6 :: x7 :: x8 :: x9 :: x10 :: x11 :: x12 :: x13 :: x14 :: some d :: e) = some (.ok d, x0 :: x1 :: x2 :: x3 :: x4 :: x5 :: x6 :: x7 :: x8 :: x9 :: x10 :: x11 :: x12 :: x13 :: x14 :: none :: e) := rfl
theorem onL16 {x0 x1 x2 x3 x4 x5 x6 x7 x8 x9 x10 x11 x12 x13 x14 x15 : Option D} {e : En} {xs : List D} {g : List D → Option (List D)} : onL 16 g (x0 :: x1 :: x2 :: x3 :: x4 :: x5 :: x6 :: x7 :: x8 :: x9 :: x10 :: x11 :: x12 :: x13 :: x14 :: x15 :: some (.lst xs) :: e) = (g xs).map fun ys => x0 :: x1 :: x2 :: x3 :: x4 :: x5 :: x6 :: x7 :: x8 :: x9 :: x10 :: x11 :: x12 :: x13 :: x14 :: x15 :: some (.lst ys) :: e := rfl
theorem isL16 {x0 x1 x2 x3 x4 x5 x6 x7 x8 x9 x10 x11 x12 x13 x14 x15 : Option D} {e : En} {xs : List D} : isL 16 (x0 :: x1 :: x2 :: x3 :: x4 :: x5 :: x6 :: x7 :: x8 :: x9 :: x10 :: x11 :: x12 :: x13 :: x14 :: x15 :: some (.lst xs) :: e) = true := rfl
theorem mv16 {x0 x1 x2 x3 x4 x5 x6 x7 x8 x9 x10 x11 x12 x13 x14 x15 : Option D} {e : En} {d : D} : mv 16 (x0 :: x1 :: x2 :: x3 :: x4 :: x5 :: x6 :: x7 :: x8 :: x9 :: x10 :: x11 :: x12 :: x13 :: x14 :: x15 :: some d :: e) = some (.ok d, x0 :: x1 :: x2 :: x3 :: x4 :: x5 :: x6 :: x7 :: x8 :: x9 :: x10 :: x11 :: x12 :: x13 :: x14 :: x15 :: none :: e) := rfl
theorem onL17 {x0 x1 x2 x3 x4 x5 x6 x7 x8 x9 x10 x11 x12 x13 x14 x15 x16 : Option D} {e : En} {xs : List D} {g : List D → Option (List D)} : onL 17 g (x0 :: x1 :: x2 :: x3 :: x4 :: x5 :: x6 :: x7 :: x8 :: x9 :: x10 :: x11 :: x12 :: x13 :: x14 :: x15 :: x16 :: some (.lst xs) :: e) = (g xs).map fun ys => x0 :: x1 :: x2 :: x3 :: x4 :: x5 :: x6 :: x7 :: x8 :: x9 :: x10 :: x11 :: x12 :: x13 :: x14 :: x15 :: x16 :: some (.lst ys) :: e := rfl
theorem isL17 {x0 x1 x2 x3 x4 x5 x6 x7 x8 x9 x10 x11 x12 x13 x14 x15 x16 : Option D} {e : En} {xs : List D} : isL 17 (x0 :: x1 :: x2 :: x3 :: x4 :: x5 :: x6 :: x7 :: x8 :: x9 :: x10 :: x11 :: x12 :: x13 :: x14 :: x15 :: x16 :: some (.lst xs) :: e) = true := rfl
theorem mv17 {x0 x1 x2 x3 x4 x5 x6 x7 x8 x9 x10 x11 x12 x13 x14 x15 x16 : Option D} {e : En} {d : D} : mv 17 (x0 :: x1 :: x2 :: x3 :: x4 :: x5 :: x6 :: x7 :: x8 :: x9 :: x10 :: x11 :: x12 :: x13 :: x14 :: x15 :: x16 :: some d :: e) = some (.ok d, x0 :: x1 :: x2 :: x3 :: x4 :: x5 :: x6 :: x7 :: x8 :: x9 :: x10 :: x11 :: x12 :: x13 :: x14 :: x15 :: x16 :: none :: e) := rfl
theorem onL18 {x0 x1 x2 x3 x4 x5 x6 x7 x8 x9 x10 x11 x12 x13 x14 x15 x16 x17 : Option D} {e : En} {xs : List D} {g : List D → Option (List D)} : onL 18 g (x0 :: x1 :: x2 :: x3 :: x4 :: x5 :: x6 :: x7 :: x8 :: x9 :: x10 :: x11 :: x12 :: x13 :: x14 :: x15 :: x16 :: x17 :: some (.lst xs) :: e) = (g xs).map fun ys => x0 :: x1 :: x2 :: x3 :: x4 :: x5 :: x6 :: x7 :: x8 :: x9 :: x10 :: x11 :: x12 :: x13 :: x14 :: x15 :: x16 :: x17 :: some (.lst ys) :: e := rfl
theorem isL18 {x0 x1 x2 x3 x4 x5 x6 x7 x8 x9 x10 x11 x12 x13 x14 x15 x16 x17 : Option D} {e : En} {xs : List D} : isL 18 (x0 :: x1 :: x2 :: x3 :: x4 :: x5 :: x6 :: x7 :: x8 :: x9 :: x10 :: x11 :: x12 :: x13 :: x14 :: x15 :: x16 :: x17 :: some (.lst xs) :: e) = true := rfl
theorem mv18 {x0 x1 x2 x3 x4 x5 x6 x7 x8 x9 x10 x11 x12 x13 x14 x15 x16 x17 : Option D} {e : En} {d : D} : mv 18 (x0 :: x1 :: x2 :: x3 :: x4 :: x5 :: x6 :: x7 :: x8 :: x9 :: x10 :: x11 :: x12 :: x13 :: x14 :: x15 :: x16 :: x17 :: some d :: e) = some (.ok d, x0 :: x1 :: x2 :: x3 :: x4 :: x5 :: x6 :: x7 :: x8 :: x9 :: x10 :: x11 :: x12 :: x13 :: x14 :: x15 :: x16 :: x17 :: none :: e) := rfl
theorem onL19 {x0 x1 x2 x3 x4 x5 x6 x7 x8 x9 x10 x11 x12 x13 x14 x15 x16 x17 x18 : Option D} {e : En} {xs : List D} {g : List D → Option (List D)} : onL 19 g (x0 :: x1 :: x2 :: x3 :: x4 :: x5 :: x6 :: x7 :: x8 :: x9 :: x10 :: x11 :: x12 :: x13 :: x14 :: x15 :: x16 :: x17 :: x18 :: some (.lst xs) :: e) = (g xs).map fun ys => x0 :: x1 :: x2 :: x3 :: x4 :: x5 :: x6 :: x7 :: x8 :: x9 :: x10 :: x11 :: x12 :: x13 :: x14 :: x15 :: x16 :: x17 :: x18 :: some (.lst ys) :: e := rfl
theorem isL19 {x0 x1 x2 x3 x4 x5 x6 x7 x8 x9 x10 x11 x12 x13 x14 x15 x16 x17 x18 : Option D} {e : En} {xs : List D} : isL 19 (x0 :: x1 :: x2 :: x3 :: x4 :: x5 :: x6 :: x7 :: x8 :: x9 :: x10 :: x11 :: x12 :: x13 :: x14 :: x15 :: x16 :: x17 :: x18 :: some (.lst xs) :: e) = true := rfl
theorem mv19 {x0 x1 x2 x3 x4 x5 x6 x7 x8 x9 x10 x11 x12 x13 x14 x15 x16 x17 x18 : Option D} {e : En} {d : D} : mv 19 (x0 :: x1 :: x2 :: x3 :: x4 :: x5 :: x6 :: x7 :: x8 :: x9 :: x10 :: x11 :: x12 :: x13 :: x14 :: x15 :: x16 :: x17 :: x18 :: some d :: e) = some (.ok d, x0 :: x1 :: x2 :: x3 :: x4 :: x5 :: x6 :: x7 :: x8 :: x9 :: x10 :: x11 :: x12 :: x13 :: x14 :: x15 :: x16 :: x17 :: x18 :: none :: e) := rfl
theorem onL20 {x0 x1 x2 x3 x4 x5 x6 x7 x8 x9 x10 x11 x12 x13 x14 x15 x16 x17 x18 x19 : Option D} {e : En} {xs : List D} {g : List D → Option (List D)} : onL 20 g (x0 :: x1 :: x2 :: x3 :: x4 :: x5 :: x6 :: x7 :: x8 :: x9 :: x10 :: x11 :: x12 :: x13 :: x14 :: x15 :: x16 :: x17 :: x18 :: x19 :: some (.lst xs) :: e) = (g xs).map fun ys => x0 :: x1 :: x2 :: x3 :: x4 :: x5 :: x6 :: x7 :: x8 :: x9 :: x10 :: x11 :: x12 :: x13 :: x14 :: x15 :: x16 :: x17 :: x18 :: x19 :: some (.lst ys) :: e := rfl
theorem isL20 {x0 x1 x2 x3 x4 x5 x6 x7 x8 x9 x10 x11 x12 x13 x14 x15 x16 x17 x18 x19 : Option D} {e : En} {xs : List D} : isL 20 (x0 :: x1 :: x2 :: x3 :: x4 :: x5 :: x6 :: x7 :: x8 :: x9 :: x10 :: x11 :: x12 :: x13 :: x14 :: x15 :: x16 :: x17 :: x18 :: x19 :: some (.lst xs) :: e) = true := rfl
theorem mv20 {x0 x1 x2 x3 x4 x5 x6 x7 x8 x9 x10 x11 x12 x13 x14 x15 x16 x17 x18 x19 : Option D} {e : En} {d : D} : mv 20 (x0 :: x1 :: x2 :: x3 :: x4 :: x5 :: x6 :: x7 :: x8 :: x9 :: x10 :: x11 :: x12 :: x13 :: x14 :: x15 :: x16 :: x17 :: x18 :: x19 :: some d :: e) = some (.ok d, x0 :: x1 :: x2 :: x3 :: x4 :: x5 :: x6 :: x7 :: x8 :: x9 :: x10 :: x11 :: x12 :: x13 :: x14 :: x15 :: x16 :: x17 :: x18 :: x19 :: none :: e) := rfl
theorem onL21 {x0 x1 x2 x3 x4 x5 x6 x7 x8 x9 x10 x11 x12 x13 x14 x15 x16 x17 x18 x19 x20 : Option D} {e : En} {xs : List D} {g : List D → Option (List D)} : onL 21 g (x0 :: x1 :: x2 :: x3 :: x4 :: x5 :: x6 :: x7 :: x8 :: x9 :: x10 :: x11 :: x12 :: x13 :: x14 :: x15 :: x16 :: x17 :: x18 :: x19 :: x20 :: some (.lst xs) :: e) = (g xs).map fun ys => x0 :: x1 :: x2 :: x3 :: x4 :: x5 :: x6 :: x7 :: x8 :: x9 :: x10 :: x11 :: x12 :: x13 :: x14 :: x15 :: x16 :: x17 :: x18 :: x19 :: x20 :: some (.lst ys) :: e := rfl
theorem isL21 {x0 x1 x2 x3 x4 x5 x6 x7 x8 x9 x10 x11 x12 x13 x14 x15 x16 x17 x18 x19 x20 : Option D} {e : En} {xs : List D} : isL 21 (x0 :: x1 :: x2 :: x3 :: x4 :: x5 :: x6 :: x7 :: x8 :: x9 :: x10 :: x11 :: x12 :: x13 :: x14 :: x15 :: x16 :: x17 :: x18 :: x19 :: x20 :: some (.lst xs) :: e) = true := rfl
theorem mv21 {x0 x1 x2 x3 x4 x5 x6 x7 x8 x9 x10 x11 x12 x13 x14 x15 x16 x17 x18 x19 x20 : Option D} {e : En} {d : D} : mv 21 (x0 :: x1 :: x2 :: x3 :: x4 :: x5 :: x6 :: x7 :: x8 :: x9 :: x10 :: x11 :: x12 :: x13 :: x14 :: x15 :: x16 :: x17 :: x18 :: x19 :: x20 :: some d :: e) = some (.ok d, x0 :: x1 :: x2 :: x3 :: x4 :: x5 :: x6 :: x7 :: x8 :: x9 :: x10 :: x11 :: x12 :: x13 :: x14 :: x15 :: x16 :: x17 :: x18 :: x19 :: x20 :: none :: e) := rfl
theorem onL22 {x0 x1 x2 x3 x4 x5 x6 x7 x8 x9 x10 x11 x12 x13 x14 x15 x16 x17 x18 x19 x20 x21 : Option D} {e : En} {xs : List D} {g : List D → Option (List D)} : onL 22 g (x0 :: x1 :: x2 :: x3 :: x4 :: x5 :: x6 :: x7 :: x8 :: x9 :: x10 :: x11 :: x12 :: x13 :: x14 :: x15 :: x16 :: x17 :: x18 :: x19 :: x20 :: x21 :: some (.lst xs) :: e) = (g xs).map fun ys => x0 :: x1 :: x2 :: x3 :: x4 :: x5 :: x6 :: x7 :: x8 :: x9 :: x10 :: x11 :: x12 :: x13 :: x14 :: x15 :: x16 :: x17 :: x18 :: x19 :: x20 :: x21 :: some (.lst ys) :: e := rfl
theorem isL22 {x0 x1 x2 x3 x4 x5 x6 x7 x8 x9 x10 x11 x12 x13 x14 x15 x16 x17 x18 x19 x20 x21 : Option D} {e : En} {xs : List D} : isL 22 (x0 :: x1 :: x2 :: x3 :: x4 :: x5 :: x6 :: x7 :: x8 :: x9 :: x10 :: x11 :: x12 :: x13 :: x14 :: x15 :: x16 :: x17 :: x18 :: x19 :: x20 :: x21 :: some (.lst xs) :: e) = true := rfl
theorem mv22 {x0 x1 x2 x3 x4 x5 x6 x7 x8 x9 x10 x11 x12 x13 x14 x15 x16 x17 x18 x19 x20 x21 : Option D} {e : En} {d : D} : mv 22 (x0 :: x1 :: x2 :: x3 :: x4 :: x5 :: x6 :: x7 :: x8 :: x9 :: x10 :: x11 :: x12 :: x13 :: x14 :: x15 :: x16 :: x17 :: x18 :: x19 :: x20 :: x21 :: some d :: e) = some (.ok d, x0 :: x1 :: x2 :: x3 :: x4 :: x5 :: x6 :: x7 :: x8 :: x9 :: x10 :: x11 :: x12 :: x13 :: x14 :: x15 :: x16 :: x17 :: x18 :: x19 :: x20 :: x21 :: none :: e) := rfl
theorem onL23 {x0 x1 x2 x3 x4 x5 x6 x7 x8 x9 x10 x11 x12 x13 x14 x15 x16 x17 x18 x19 x20 x21 x22 : Option D} {e : En} {xs : List D} {g : List D → Option (List D)} : onL 23 g (x0 :: x1 :: x2 :: x3 :: x4 :: x5 :: x6 :: x7 :: x8 :: x9 :: x10 :: x11 :: x12 :: x13 :: x14 :: x15 :: x16 :: x17 :: x18 :: x19 :: x20 :: x21 :: x22 :: some (.lst xs) :: e) = (g xs).map fun ys => x0 :: x1 :: x2 :: x3 :: x4 :: x5 :: x6 :: x7 :: x8 :: x9 :: x10 :: x11 :: x12 :: x13 :: x14 :: x15 :: x16 :: x17 :: x18 :: x19 :: x20 :: x21 :: x22 :: some (.lst ys) :: e := rfl
theorem isL23 {x0 x1 x2 x3 x4 x5 x6 x7 x8 x9 x10 x11 x12 x13 x14 x15 x16 x17 x18 x19 x20 x21 x22 : Option D} {e : En} {xs : List D} : isL 23 (x0 :: x1 :: x2 :: x3 :: x4 :: x5 :: x6 :: x7 :: x8 :: x9 :: x10 :: x11 :: x12 :: x13 :: x14 :: x15 :: x16 :: x17 :: x18 :: x19 :: x20 :: x21 :: x22 :: some (.lst xs) :: e) = true := rfl
theorem mv23 {x0 x1 x2 x3 x4 x5 x6 x7 x8 x9 x10 x11 x12 x13 x14 x15 x16 x17 x18 x19 x20 x21 x22 : Option D} {e : En} {d : D} : mv 23 (x0 :: x1 :: x2 :: x3 :: x4 :: x5 :: x6 :: x7 :: x8 :: x9 :: x10 :: x11 :: x12 :: x13 :: x14 :: x15 :: x16 :: x17 :: x18 :: x19 :: x20 :: x21 :: x22 :: some d :: e) = some (.ok d, x0 :: x1 :: x2 :: x3 :: x4 :: x5 :: x6 :: x7 :: x8 :: x9 :: x10 :: x11 :: x12 :: x13 :: x14 :: x15 :: x16 :: x17 :: x18 :: x19 :: x20 :: x21 :: x22 :: none :: e) := rfl
theorem muD_l {i j : Int} (h : 0 ≤ i) (h2 : i < 4611686018427387904) : muD (.int i) (.int j) = some (.int (i * j)) := if_pos (.inl (by omega))
theorem muD_r {i j : Int} (h : 0 ≤ j) (h2 : j < 4611686018427387904) : muD (.int i) (.int j) = some (.int (i * j)) := if_pos (.inr (by omega))
theorem mdI_p {i j : Int} (h : 0 < j) : mdI (.int i) (.int j) = some (.int (i % j)) := if_pos h
theorem fdI_p {i j : Int} (h : 0 < j) (h2 : j < 4611686018427387904) : fdI (.int i) (.int j) = some (.int (i / j)) := if_pos ⟨h, by omega⟩
theorem emod_b (i : Int) {j : Int} (h : 0 < j) : 0 ≤ i % j ∧ i % j < j := ⟨Int.emod_nonneg _ (by omega), Int.emod_lt_of_pos _ h⟩
mutual
theorem eqv_self : ∀ {n : Nat} {d : D}, d.ok n = true → PyData.eqv d.py d.py = true
  | _, .non, _ => rfl
  | _, .bl b, _ => by cases b <;> rfl
  | _, .int i, _ => by show (i == i) = true; exact beq_self_eq_true i
  | _, .str x, _ => by show (x == x) = true; exact beq_self_eq_true x
  | n + 1, .tup xs, h => eqv_selfs (n := n) h
  | n + 1, .lst xs, h => eqv_selfs (n := n) h
  | 0, .tup xs, h => by cases h
  | 0, .lst xs, h => by cases h
  | _, .dic _ _, h => by simp [D.ok] at h
  | _, .dct _ _, h => by simp [D.ok] at h
  | _, .ins _ _ _, h => by simp [D.ok] at h
theorem eqv_selfs : ∀ {n : Nat} {ds : List D}, D.oks n ds = true → PyData.eqvAll (D.pys ds) (D.pys ds) = true
  | _, [], _ => rfl
  | n, d :: ds, h => by
    have h' := Bool.and_eq_true_iff.mp (show (d.ok n && D.oks n ds) = true from h)
    show (PyData.eqv d.py d.py && PyData.eqvAll (D.pys ds) (D.pys ds)) = true
    rw [eqv_self h'.1, eqv_selfs h'.2] <;> rfl
end
theorem eqD_self {d : D} (h : d.ok 60 = true) : eqD d d = some (.bl true) := by
  unfold eqD
  rw [if_pos (by rw [h]; rfl), eqv_self h]
theorem neD_self {d : D} (h : d.ok 60 = true) : neD d d = some (.bl false) := by
  unfold neD
  rw [if_pos (by rw [h]; rfl), eqv_self h] <;> rfl
theorem oks_ints {n : Nat} : ∀ {ns : List Int}, D.oks n (ns.map .int) = true
  | [] => by cases n <;> rfl
  | i :: ns => by
    show ((D.int i).ok n && D.oks n (ns.map .int)) = true
    rw [oks_ints (ns := ns)]
    cases n <;> rfl
theorem ok_ints {n : Nat} {ns : List Int} : (D.lst (ns.map .int)).ok (n + 1) = true := oks_ints
theorem eqD_i {i j : Int} : eqD (.int i) (.int j) = some (.bl (decide (i = j))) := rfl
theorem neD_i {i j : Int} : neD (.int i) (.int j) = some (.bl (!decide (i = j))) := rfl
theorem eqv_int {i j : Int} : PyData.eqv (D.int i).py (D.int j).py = decide (i = j) := by
  show (i == j) = _
  rfl

theorem at1_0 {x0 : D} : atI [x0] (0) = some x0 := rfl
theorem st1_0 {x0 d : D} : stL (.int 0) d [x0] = some [d] := rfl
theorem at1_m1 {x0 : D} : atI [x0] (-1) = some x0 := rfl
theorem at2_0 {x0 x1 : D} : atI [x0, x1] (0) = some x0 := rfl
theorem st2_0 {x0 x1 d : D} : stL (.int 0) d [x0, x1] = some [d, x1] := rfl
theorem at2_1 {x0 x1 : D} : atI [x0, x1] (1) = some x1 := rfl
theorem st2_1 {x0 x1 d : D} : stL (.int 1) d [x0, x1] = some [x0, d] := rfl
theorem at2_m2 {x0 x1 : D} : atI [x0, x1] (-2) = some x0 := rfl
theorem at2_m1 {x0 x1 : D} : atI [x0, x1] (-1) = some x1 := rfl
theorem at3_0 {x0 x1 x2 : D} : atI [x0, x1, x2] (0) = some x0 := rfl
theorem st3_0 {x0 x1 x2 d : D} : stL (.int 0) d [x0, x1, x2] = some [d, x1, x2] := rfl
theorem at3_1 {x0 x1 x2 : D} : atI [x0, x1, x2] (1) = some x1 := rfl
theorem st3_1 {x0 x1 x2 d : D} : stL (.int 1) d [x0, x1, x2] = some [x0, d, x2] := rfl
theorem at3_2 {x0 x1 x2 : D} : atI [x0, x1, x2] (2) = some x2 := rfl
theorem st3_2 {x0 x1 x2 d : D} : stL (.int 2) d [x0, x1, x2] = some [x0, x1, d] := rfl
theorem at3_m3 {x0 x1 x2 : D} : atI [x0, x1, x2] (-3) = some x0 := rfl
theorem at3_m2 {x0 x1 x2 : D} : atI [x0, x1, x2] (-2) = some x1 := rfl
theorem at3_m1 {x0 x1 x2 : D} : atI [x0, x1, x2] (-1) = some x2 := rfl
theorem at4_0 {x0 x1 x2 x3 : D} : atI [x0, x1, x2, x3] (0) = some x0 := rfl
theorem st4_0 {x0 x1 x2 x3 d : D} : stL (.int 0) d [x0, x1, x2, x3] = some [d, x1, x2, x3] := rfl
theorem at4_1 {x0 x1 x2 x3 : D} : atI [x0, x1, x2, x3] (1) = some x1 := rfl
theorem st4_1 {x0 x1 x2 x3 d : D} : stL (.int 1) d [x0, x1, x2, x3] = some [x0, d, x2, x3] := rfl
theorem at4_2 {x0 x1 x2 x3 : D} : atI [x0, x1, x2, x3] (2) = some x2 := rfl
theorem st4_2 {x0 x1 x2 x3 d : D} : stL (.int 2) d [x0, x1, x2, x3] = some [x0, x1, d, x3] := rfl
theorem at4_3 {x0 x1 x2 x3 : D} : atI [x0, x1, x2, x3] (3) = some x3 := rfl
theorem st4_3 {x0 x1 x2 x3 d : D} : stL (.int 3) d [x0, x1, x2, x3] = some [x0, x1, x2, d] := rfl
theorem at4_m4 {x0 x1 x2 x3 : D} : atI [x0, x1, x2, x3] (-4) = some x0 := rfl
theorem at4_m3 {x0 x1 x2 x3 : D} : atI [x0, x1, x2, x3] (-3) = some x1 := rfl
theorem at4_m2 {x0 x1 x2 x3 : D} : atI [x0, x1, x2, x3] (-2) = some x2 := rfl
theorem at4_m1 {x0 x1 x2 x3 : D} : atI [x0, x1, x2, x3] (-1) = some x3 := rfl
theorem at5_0 {x0 x1 x2 x3 x4 : D} : atI [x0, x1, x2, x3, x4] (0) = some x0 := rfl
theorem st5_0 {x0 x1 x2 x3 x4 d : D} : stL (.int 0) d [x0, x1, x2, x3, x4] = some [d, x1, x2, x3, x4] := rfl
theorem at5_1 {x0 x1 x2 x3 x4 : D} : atI [x0, x1, x2, x3, x4] (1) = some x1 := rfl
theorem st5_1 {x0 x1 x2 x3 x4 d : D} : stL (.int 1) d [x0, x1, x2, x3, x4] = some [x0, d, x2, x3, x4] := rfl
theorem at5_2 {x0 x1 x2 x3 x4 : D} : atI [x0, x1, x2, x3, x4] (2) = some x2 := rfl
theorem st5_2 {x0 x1 x2 x3 x4 d : D} : stL (.int 2) d [x0, x1, x2, x3, x4] = some [x0, x1, d, x3, x4] := rfl
theorem at5_3 {x0 x1 x2 x3 x4 : D} : atI [x0, x1, x2, x3, x4] (3) = some x3 := rfl
theorem st5_3 {x0 x1 x2 x3 x4 d : D} : stL (.int 3) d [x0, x1, x2, x3, x4] = some [x0, x1, x2, d, x4] := rfl
theorem at5_4 {x0 x1 x2 x3 x4 : D} : atI [x0, x1, x2, x3, x4] (4) = some x4 := rfl
theorem st5_4 {x0 x1 x2 x3 x4 d : D} : stL (.int 4) d [x0, x1, x2, x3, x4] = some [x0, x1, x2, x3, d] := rfl
theorem at5_m5 {x0 x1 x2 x3 x4 : D} : atI [x0, x1, x2, x3, x4] (-5) = some x0 := rfl
theorem at5_m4 {x0 x1 x2 x3 x4 : D} : atI [x0, x1, x2, x3, x4] (-4) = some x1 := rfl
theorem at5_m3 {x0 x1 x2 x3 x4 : D} : atI [x0, x1, x2, x3, x4] (-3) = some x2 := rfl
theorem at5_m2 {x0 x1 x2 x3 x4 : D} : atI [x0, x1, x2, x3, x4] (-2) = some x3 := rfl
theorem at5_m1 {x0 x1 x2 x3 x4 : D} : atI [x0, x1, x2, x3, x4] (-1) = some x4 := rfl
theorem at6_0 {x0 x1 x2 x3 x4 x5 : D} : atI [x0, x1, x2, x3, x4, x5] (0) = some x0 := rfl
theorem st6_0 {x0 x1 x2 x3 x4 x5 d : D} : stL (.int 0) d [x0, x1, x2, x3, x4, x5] = some [d, x1, x2, x3, x4, x5] := rfl
theorem at6_1 {x0 x1 x2 x3 x4 x5 : D} : atI [x0, x1, x2, x3, x4, x5] (1) = some x1 := rfl
theorem st6_1 {x0 x1 x2 x3 x4 x5 d : D} : stL (.int 1) d [x0, x1, x2, x3, x4, x5] = some [x0, d, x2, x3, x4, x5] := rfl
theorem at6_2 {x0 x1 x2 x3 x4 x5 : D} : atI [x0, x1, x2, x3, x4, x5] (2) = some x2 := rfl
theorem st6_2 {x0 x1 x2 x3 x4 x5 d : D} : stL (.int 2) d [x0, x1, x2, x3, x4, x5] = some [x0, x1, d, x3, x4, x5] := rfl
theorem at6_3 {x0 x1 x2 x3 x4 x5 : D} : atI [x0, x1, x2, x3, x4, x5] (3) = some x3 := rfl
theorem st6_3 {x0 x1 x2 x3 x4 x5 d : D} : stL (.int 3) d [x0, x1, x2, x3, x4, x5] = some [x0, x1, x2, d, x4, x5] := rfl
theorem at6_4 {x0 x1 x2 x3 x4 x5 : D} : atI [x0, x1, x2, x3, x4, x5] (4) = some x4 := rfl
theorem st6_4 {x0 x1 x2 x3 x4 x5 d : D} : stL (.int 4) d [x0, x1, x2, x3, x4, x5] = some [x0, x1, x2, x3, d, x5] := rfl
theorem at6_5 {x0 x1 x2 x3 x4 x5 : D} : atI [x0, x1, x2, x3, x4, x5] (5) = some x5 := rfl
theorem st6_5 {x0 x1 x2 x3 x4 x5 d : D} : stL (.int 5) d [x0, x1, x2, x3, x4, x5] = some [x0, x1, x2, x3, x4, d] := rfl
theorem at6_m6 {x0 x1 x2 x3 x4 x5 : D} : atI [x0, x1, x2, x3, x4, x5] (-6) = some x0 := rfl
theorem at6_m5 {x0 x1 x2 x3 x4 x5 : D} : atI [x0, x1, x2, x3, x4, x5] (-5) = some x1 := rfl
theorem at6_m4 {x0 x1 x2 x3 x4 x5 : D} : atI [x0, x1, x2, x3, x4, x5] (-4) = some x2 := rfl
theorem at6_m3 {x0 x1 x2 x3 x4 x5 : D} : atI [x0, x1, x2, x3, x4, x5] (-3) = some x3 := rfl
theorem at6_m2 {x0 x1 x2 x3 x4 x5 : D} : atI [x0, x1, x2, x3, x4, x5] (-2) = some x4 := rfl
theorem at6_m1 {x0 x1 x2 x3 x4 x5 : D} : atI [x0, x1, x2, x3, x4, x5] (-1) = some x5 := rfl
theorem at7_0 {x0 x1 x2 x3 x4 x5 x6 : D} : atI [x0, x1, x2, x3, x4, x5, x6] (0) = some x0 := rfl
theorem st7_0 {x0 x1 x2 x3 x4 x5 x6 d : D} : stL (.int 0) d [x0, x1, x2, x3, x4, x5, x6] = some [d, x1, x2, x3, x4, x5, x6] := rfl
theorem at7_1 {x0 x1 x2 x3 x4 x5 x6 : D} : atI [x0, x1, x2, x3, x4, x5, x6] (1) = some x1 := rfl
theorem st7_1 {x0 x1 x2 x3 x4 x5 x6 d : D} : stL (.int 1) d [x0, x1, x2, x3, x4, x5, x6] = some [x0, d, x2, x3, x4, x5, x6] := rfl
theorem at7_2 {x0 x1 x2 x3 x4 x5 x6 : D} : atI [x0, x1, x2, x3, x4, x5, x6] (2) = some x2 := rfl
theorem st7_2 {x0 x1 x2 x3 x4 x5 x6 d : D} : stL (.int 2) d [x0, x1, x2, x3, x4, x5, x6] = some [x0, x1, d, x3, x4, x5, x6] := rfl
theorem at7_3 {x0 x1 x2 x3 x4 x5 x6 : D} : atI [x0, x1, x2, x3, x4, x5, x6] (3) = some x3 := rfl
theorem st7_3 {x0 x1 x2 x3 x4 x5 x6 d : D} : stL (.int 3) d [x0, x1, x2, x3, x4, x5, x6] = some [x0, x1, x2, d, x4, x5, x6] := rfl
theorem at7_4 {x0 x1 x2 x3 x4 x5 x6 : D} : atI [x0, x1, x2, x3, x4, x5, x6] (4) = some x4 := rfl
theorem st7_4 {x0 x1 x2 x3 x4 x5 x6 d : D} : stL (.int 4) d [x0, x1, x2, x3, x4, x5, x6] = some [x0, x1, x2, x3, d, x5, x6] := rfl
theorem at7_5 {x0 x1 x2 x3 x4 x5 x6 : D} : atI [x0, x1, x2, x3, x4, x5, x6] (5) = some x5 := rfl
theorem st7_5 {x0 x1 x2 x3 x4 x5 x6 d : D} : stL (.int 5) d [x0, x1, x2, x3, x4, x5, x6] = some [x0, x1, x2, x3, x4, d, x6] := rfl
theorem at7_6 {x0 x1 x2 x3 x4 x5 x6 : D} : atI [x0, x1, x2, x3, x4, x5, x6] (6) = some x6 := rfl
theorem st7_6 {x0 x1 x2 x3 x4 x5 x6 d : D} : stL (.int 6) d [x0, x1, x2, x3, x4, x5, x6] = some [x0, x1, x2, x3, x4, x5, d] := rfl
theorem at7_m7 {x0 x1 x2 x3 x4 x5 x6 : D} : atI [x0, x1, x2, x3, x4, x5, x6] (-7) = some x0 := rfl
theorem at7_m6 {x0 x1 x2 x3 x4 x5 x6 : D} : atI [x0, x1, x2, x3, x4, x5, x6] (-6) = some x1 := rfl
theorem at7_m5 {x0 x1 x2 x3 x4 x5 x6 : D} : atI [x0, x1, x2, x3, x4, x5, x6] (-5) = some x2 := rfl
theorem at7_m4 {x0 x1 x2 x3 x4 x5 x6 : D} : atI [x0, x1, x2, x3, x4, x5, x6] (-4) = some x3 := rfl
theorem at7_m3 {x0 x1 x2 x3 x4 x5 x6 : D} : atI [x0, x1, x2, x3, x4, x5, x6] (-3) = some x4 := rfl
theorem at7_m2 {x0 x1 x2 x3 x4 x5 x6 : D} : atI [x0, x1, x2, x3, x4, x5, x6] (-2) = some x5 := rfl
theorem at7_m1 {x0 x1 x2 x3 x4 x5 x6 : D} : atI [x0, x1, x2, x3, x4, x5, x6] (-1) = some x6 := rfl
theorem at8_0 {x0 x1 x2 x3 x4 x5 x6 x7 : D} : atI [x0, x1, x2, x3, x4, x5, x6, x7] (0) = some x0 := rfl
theorem st8_0 {x0 x1 x2 x3 x4 x5 x6 x7 d : D} : stL (.int 0) d [x0, x1, x2, x3, x4, x5, x6, x7] = some [d, x1, x2, x3, x4, x5, x6, x7] := rfl
theorem at8_1 {x0 x1 x2 x3 x4 x5 x6 x7 : D} : atI [x0, x1, x2, x3, x4, x5, x6, x7] (1) = some x1 := rfl
theorem st8_1 {x0 x1 x2 x3 x4 x5 x6 x7 d : D} : stL (.int 1) d [x0, x1, x2, x3, x4, x5, x6, x7] = some [x0, d, x2, x3, x4, x5, x6, x7] := rfl
theorem at8_2 {x0 x1 x2 x3 x4 x5 x6 x7 : D} : atI [x0, x1, x2, x3, x4, x5, x6, x7] (2) = some x2 := rfl
theorem st8_2 {x0 x1 x2 x3 x4 x5 x6 x7 d : D} : stL (.int 2) d [x0, x1, x2, x3, x4, x5, x6, x7] = some [x0, x1, d, x3, x4, x5, x6, x7] := rfl
theorem at8_3 {x0 x1 x2 x3 x4 x5 x6 x7 : D} : atI [x0, x1, x2, x3, x4, x5, x6, x7] (3) = some x3 := rfl
theorem st8_3 {x0 x1 x2 x3 x4 x5 x6 x7 d : D} : stL (.int 3) d [x0, x1, x2, x3, x4, x5, x6, x7] = some [x0, x1, x2, d, x4, x5, x6, x7] := rfl
theorem at8_4 {x0 x1 x2 x3 x4 x5 x6 x7 : D} : atI [x0, x1, x2, x3, x4, x5, x6, x7] (4) = some x4 := rfl
theorem st8_4 {x0 x1 x2 x3 x4 x5 x6 x7 d : D} : stL (.int 4) d [x0, x1, x2, x3, x4, x5, x6, x7] = some [x0, x1, x2, x3, d, x5, x6, x7] := rfl
theorem at8_5 {x0 x1 x2 x3 x4 x5 x6 x7 : D} : atI [x0, x1, x2, x3, x4, x5, x6, x7] (5) = some x5 := rfl
theorem st8_5 {x0 x1 x2 x3 x4 x5 x6 x7 d : D} : stL (.int 5) d [x0, x1, x2, x3, x4, x5, x6, x7] = some [x0, x1, x2, x3, x4, d, x6, x7] := rfl
theorem at8_6 {x0 x1 x2 x3 x4 x5 x6 x7 : D} : atI [x0, x1, x2, x3, x4, x5, x6, x7] (6) = some x6 := rfl
theorem st8_6 {x0 x1 x2 x3 x4 x5 x6 x7 d : D} : stL (.int 6) d [x0, x1, x2, x3, x4, x5, x6, x7] = some [x0, x1, x2, x3, x4, x5, d, x7] := rfl
theorem at8_7 {x0 x1 x2 x3 x4 x5 x6 x7 : D} : atI [x0, x1, x2, x3, x4, x5, x6, x7] (7) = some x7 := rfl
theorem st8_7 {x0 x1 x2 x3 x4 x5 x6 x7 d : D} : stL (.int 7) d [x0, x1, x2, x3, x4, x5, x6, x7] = some [x0, x1, x2, x3, x4, x5, x6, d] := rfl
theorem at8_m8 {x0 x1 x2 x3 x4 x5 x6 x7 : D} : atI [x0, x1, x2, x3, x4, x5, x6, x7] (-8) = some x0 := rfl
theorem at8_m7 {x0 x1 x2 x3 x4 x5 x6 x7 : D} : atI [x0, x1, x2, x3, x4, x5, x6, x7] (-7) = some x1 := rfl
theorem at8_m6 {x0 x1 x2 x3 x4 x5 x6 x7 : D} : atI [x0, x1, x2, x3, x4, x5, x6, x7] (-6) = some x2 := rfl
theorem at8_m5 {x0 x1 x2 x3 x4 x5 x6 x7 : D} : atI [x0, x1, x2, x3, x4, x5, x6, x7] (-5) = some x3 := rfl
theorem at8_m4 {x0 x1 x2 x3 x4 x5 x6 x7 : D} : atI [x0, x1, x2, x3, x4, x5, x6, x7] (-4) = some x4 := rfl
theorem at8_m3 {x0 x1 x2 x3 x4 x5 x6 x7 : D} : atI [x0, x1, x2, x3, x4, x5, x6, x7] (-3) = some x5 := rfl
theorem at8_m2 {x0 x1 x2 x3 x4 x5 x6 x7 : D} : atI [x0, x1, x2, x3, x4, x5, x6, x7] (-2) = some x6 := rfl
theorem at8_m1 {x0 x1 x2 x3 x4 x5 x6 x7 : D} : atI [x0, x1, x2, x3, x4, x5, x6, x7] (-1) = some x7 := rfl
theorem oC0 {e : En} {d0 : D} {fs : En → Option (List D)} {F : DF} {dfl : List D} : oC 0 fs F dfl (some d0 :: e) = (match fs (some d0 :: e) with
    | some ds => (match F (d0 :: (ds ++ dfl)) with
      | some (.rt d, [o]) => some (.ok d, some o :: e)
      | some (.ex c d, [o]) => some (.ex c d, some o :: e)
      | _ => none)
    | none => none) := rfl
theorem oC1 {x0 : Option D} {e : En} {d0 : D} {fs : En → Option (List D)} {F : DF} {dfl : List D} : oC 1 fs F dfl (x0 :: some d0 :: e) = (match fs (x0 :: some d0 :: e) with
    | some ds => (match F (d0 :: (ds ++ dfl)) with
      | some (.rt d, [o]) => some (.ok d, x0 :: some o :: e)
      | some (.ex c d, [o]) => some (.ex c d, x0 :: some o :: e)
      | _ => none)
    | none => none) := rfl
theorem oC2 {x0 x1 : Option D} {e : En} {d0 : D} {fs : En → Option (List D)} {F : DF} {dfl : List D} : oC 2 fs F dfl (x0 :: x1 :: some d0 :: e) = (match fs (x0 :: x1 :: some d0 :: e) with
    | some ds => (match F (d0 :: (ds ++ dfl)) with
      | some (.rt d, [o]) => some (.ok d, x0 :: x1 :: some o :: e)
      | some (.ex c d, [o]) => some (.ex c d, x0 :: x1 :: some o :: e)
      | _ => none)
    | none => none) := rfl
theorem oC3 {x0 x1 x2 : Option D} {e : En} {d0 : D} {fs : En → Option (List D)} {F : DF} {dfl : List D} : oC 3 fs F dfl (x0 :: x1 :: x2 :: some d0 :: e) = (match fs (x0 :: x1 :: x2 :: some d0 :: e) with
    | some ds => (match F (d0 :: (ds ++ dfl)) with
      | some (.rt d, [o]) => some (.ok d, x0 :: x1 :: x2 :: some o :: e)
      | some (.ex c d, [o]) => some (.ex c d, x0 :: x1 :: x2 :: some o :: e)
      | _ => none)
    | none => none) := rfl
theorem oC4 {x0 x1 x2 x3 : Option D} {e : En} {d0 : D} {fs : En → Option (List D)} {F : DF} {dfl : List D} : oC 4 fs F dfl (x0 :: x1 :: x2 :: x3 :: some d0 :: e) = (match fs (x0 :: x1 :: x2 :: x3 :: some d0 :: e) with
    | some ds => (match F (d0 :: (ds ++ dfl)) with
      | some (.rt d, [o]) => some (.ok d, x0 :: x1 :: x2 :: x3 :: some o :: e)
      | some (.ex c d, [o]) => some (.ex c d, x0 :: x1 :: x2 :: x3 :: some o :: e)
      | _ => none)
    | none => none) := rfl
theorem oC5 {x0 x1 x2 x3 x4 : Option D} {e : En} {d0 : D} {fs : En → Option (List D)} {F : DF} {dfl : List D} : oC 5 fs F dfl (x0 :: x1 :: x2 :: x3 :: x4 :: some d0 :: e) = (match fs (x0 :: x1 :: x2 :: x3 :: x4 :: some d0 :: e) with
    | some ds => (match F (d0 :: (ds ++ dfl)) with
      | some (.rt d, [o]) => some (.ok d, x0 :: x1 :: x2 :: x3 :: x4 :: some o :: e)
      | some (.ex c d, [o]) => some (.ex c d, x0 :: x1 :: x2 :: x3 :: x4 :: some o :: e)
      | _ => none)
    | none => none) := rfl
theorem oC6 {x0 x1 x2 x3 x4 x5 : Option D} {e : En} {d0 : D} {fs : En → Option (List D)} {F : DF} {dfl : List D} : oC 6 fs F dfl (x0 :: x1 :: x2 :: x3 :: x4 :: x5 :: some d0 :: e) = (match fs (x0 :: x1 :: x2 :: x3 :: x4 :: x5 :: some d0 :: e) with
    | some ds => (match F (d0 :: (ds ++ dfl)) with
      | some (.rt d, [o]) => some (.ok d, x0 :: x1 :: x2 :: x3 :: x4 :: x5 :: some o :: e)
      | some (.ex c d, [o]) => some (.ex c d, x0 :: x1 :: x2 :: x3 :: x4 :: x5 :: some o :: e)
      | _ => none)
    | none => none) := rfl
theorem oC7 {x0 x1 x2 x3 x4 x5 x6 : Option D} {e : En} {d0 : D} {fs : En → Option (List D)} {F : DF} {dfl : List D} : oC 7 fs F dfl (x0 :: x1 :: x2 :: x3 :: x4 :: x5 :: x6 :: some d0 :: e) = (match fs (x0 :: x1 :: x2 :: x3 :: x4 :: x5 :: x6 :: some d0 :: e) with
    | some ds => (match F (d0 :: (ds ++ dfl)) with
      | some (.rt d, [o]) => some (.ok d, x0 :: x1 :: x2 :: x3 :: x4 :: x5 :: x6 :: some o :: e)
      | some (.ex c d, [o]) => some (.ex c d, x0 :: x1 :: x2 :: x3 :: x4 :: x5 :: x6 :: some o :: e)
      | _ => none)
    | none => none) := rfl
theorem ls0 : lstD [] = some (.lst []) := by unfold lstD; exact if_pos (by rw [sizeLine_eq]; simp only [List.length_cons, List.length_nil]; decide)
theorem tp0 : tupD [] = some (.tup []) := by unfold tupD; exact if_pos (by rw [sizeLine_eq]; simp only [List.length_cons, List.length_nil]; decide)
theorem ls1 {x0 : D} : lstD [x0] = some (.lst [x0]) := by unfold lstD; exact if_pos (by rw [sizeLine_eq]; simp only [List.length_cons, List.length_nil]; decide)
theorem tp1 {x0 : D} : tupD [x0] = some (.tup [x0]) := by unfold tupD; exact if_pos (by rw [sizeLine_eq]; simp only [List.length_cons, List.length_nil]; decide)
theorem ls2 {x0 x1 : D} : lstD [x0, x1] = some (.lst [x0, x1]) := by unfold lstD; exact if_pos (by rw [sizeLine_eq]; simp only [List.length_cons, List.length_nil]; decide)
theorem tp2 {x0 x1 : D} : tupD [x0, x1] = some (.tup [x0, x1]) := by unfold tupD; exact if_pos (by rw [sizeLine_eq]; simp only [List.length_cons, List.length_nil]; decide)
theorem ls3 {x0 x1 x2 : D} : lstD [x0, x1, x2] = some (.lst [x0, x1, x2]) := by unfold lstD; exact if_pos (by rw [sizeLine_eq]; simp only [List.length_cons, List.length_nil]; decide)
theorem tp3 {x0 x1 x2 : D} : tupD [x0, x1, x2] = some (.tup [x0, x1, x2]) := by unfold tupD; exact if_pos (by rw [sizeLine_eq]; simp only [List.length_cons, List.length_nil]; decide)
theorem ls4 {x0 x1 x2 x3 : D} : lstD [x0, x1, x2, x3] = some (.lst [x0, x1, x2, x3]) := by unfold lstD; exact if_pos (by rw [sizeLine_eq]; simp only [List.length_cons, List.length_nil]; decide)
theorem tp4 {x0 x1 x2 x3 : D} : tupD [x0, x1, x2, x3] = some (.tup [x0, x1, x2, x3]) := by unfold tupD; exact if_pos (by rw [sizeLine_eq]; simp only [List.length_cons, List.length_nil]; decide)
theorem ls5 {x0 x1 x2 x3 x4 : D} : lstD [x0, x1, x2, x3, x4] = some (.lst [x0, x1, x2, x3, x4]) := by unfold lstD; exact if_pos (by rw [sizeLine_eq]; simp only [List.length_cons, List.length_nil]; decide)
theorem tp5 {x0 x1 x2 x3 x4 : D} : tupD [x0, x1, x2, x3, x4] = some (.tup [x0, x1, x2, x3, x4]) := by unfold tupD; exact if_pos (by rw [sizeLine_eq]; simp only [List.length_cons, List.length_nil]; decide)
theorem ls6 {x0 x1 x2 x3 x4 x5 : D} : lstD [x0, x1, x2, x3, x4, x5] = some (.lst [x0, x1, x2, x3, x4, x5]) := by unfold lstD; exact if_pos (by rw [sizeLine_eq]; simp only [List.length_cons, List.length_nil]; decide)
theorem tp6 {x0 x1 x2 x3 x4 x5 : D} : tupD [x0, x1, x2, x3, x4, x5] = some (.tup [x0, x1, x2, x3, x4, x5]) := by unfold tupD; exact if_pos (by rw [sizeLine_eq]; simp only [List.length_cons, List.length_nil]; decide)
theorem ls7 {x0 x1 x2 x3 x4 x5 x6 : D} : lstD [x0, x1, x2, x3, x4, x5, x6] = some (.lst [x0, x1, x2, x3, x4, x5, x6]) := by unfold lstD; exact if_pos (by rw [sizeLine_eq]; simp only [List.length_cons, List.length_nil]; decide)
theorem tp7 {x0 x1 x2 x3 x4 x5 x6 : D} : tupD [x0, x1, x2, x3, x4, x5, x6] = some (.tup [x0, x1, x2, x3, x4, x5, x6]) := by unfold tupD; exact if_pos (by rw [sizeLine_eq]; simp only [List.length_cons, List.length_nil]; decide)
theorem ls8 {x0 x1 x2 x3 x4 x5 x6 x7 : D} : lstD [x0, x1, x2, x3, x4, x5, x6, x7] = some (.lst [x0, x1, x2, x3, x4, x5, x6, x7]) := by unfold lstD; exact if_pos (by rw [sizeLine_eq]; simp only [List.length_cons, List.length_nil]; decide)
theorem tp8 {x0 x1 x2 x3 x4 x5 x6 x7 : D} : tupD [x0, x1, x2, x3, x4, x5, x6, x7] = some (.tup [x0, x1, x2, x3, x4, x5, x6, x7]) := by unfold tupD; exact if_pos (by rw [sizeLine_eq]; simp only [List.length_cons, List.length_nil]; decide)
theorem ls9 {x0 x1 x2 x3 x4 x5 x6 x7 x8 : D} : lstD [x0, x1, x2, x3, x4, x5, x6, x7, x8] = some (.lst [x0, x1, x2, x3, x4, x5, x6, x7, x8]) := by unfold lstD; exact if_pos (by rw [sizeLine_eq]; simp only [List.length_cons, List.length_nil]; decide)
theorem tp9 {x0 x1 x2 x3 x4 x5 x6 x7 x8 : D} : tupD [x0, x1, x2, x3, x4, x5, x6, x7, x8] = some (.tup [x0, x1, x2, x3, x4, x5, x6, x7, x8]) := by unfold tupD; exact if_pos (by rw [sizeLine_eq]; simp only [List.length_cons, List.length_nil]; decide)
theorem ls10 {x0 x1 x2 x3 x4 x5 x6 x7 x8 x9 : D} : lstD [x0, x1, x2, x3, x4, x5, x6, x7, x8, x9] = some (.lst [x0, x1, x2, x3, x4, x5, x6, x7, x8, x9]) := by unfold lstD; exact if_pos (by rw [sizeLine_eq]; simp only [List.length_cons, List.length_nil]; decide)
theorem tp10 {x0 x1 x2 x3 x4 x5 x6 x7 x8 x9 : D} : tupD [x0, x1, x2, x3, x4, x5, x6, x7, x8, x9] = some (.tup [x0, x1, x2, x3, x4, x5, x6, x7, x8, x9]) := by unfold tupD; exact if_pos (by rw [sizeLine_eq]; simp only [List.length_cons, List.length_nil]; decide)
theorem ls11 {x0 x1 x2 x3 x4 x5 x6 x7 x8 x9 x10 : D} : lstD [x0, x1, x2, x3, x4, x5, x6, x7, x8, x9, x10] = some (.lst [x0, x1, x2, x3, x4, x5, x6, x7, x8, x9, x10]) := by unfold lstD; exact if_pos (by rw [sizeLine_eq]; simp only [List.length_cons, List.length_nil]; decide)
theorem tp11 {x0 x1 x2 x3 x4 x5 x6 x7 x8 x9 x10 : D} : tupD [x0, x1, x2, x3, x4, x5, x6, x7, x8, x9, x10] = some (.tup [x0, x1, x2, x3, x4, x5, x6, x7, x8, x9, x10]) := by unfold tupD; exact if_pos (by rw [sizeLine_eq]; simp only [List.length_cons, List.length_nil]; decide)
theorem ls12 {x0 x1 x2 x3 x4 x5 x6 x7 x8 x9 x10 x11 : D} : lstD [x0, x1, x2, x3, x4, x5, x6, x7, x8, x9, x10, x11] = some (.lst [x0, x1, x2, x3, x4, x5, x6, x7, x8, x9, x10, x11]) := by unfold lstD; exact if_pos (by rw [sizeLine_eq]; simp only [List.length_cons, List.length_nil]; decide)
theorem tp12 {x0 x1 x2 x3 x4 x5 x6 x7 x8 x9 x10 x11 : D} : tupD [x0, x1, x2, x3, x4, x5, x6, x7, x8, x9, x10, x11] = some (.tup [x0, x1, x2, x3, x4, x5, x6, x7, x8, x9, x10, x11]) := by unfold tupD; exact if_pos (by rw [sizeLine_eq]; simp only [List.length_cons, List.length_nil]; decide)
/-! ### loops -/
theorem for_inv {as : D → En → Option En} {b : SE} {I : En → Prop} {P : D → Prop} (step : ∀ d env, P d → I env → ∃ e1, as d env = some e1 ∧ ∃ e2, (b e1 = some (.nx, e2) ∨ b e1 = some (.ct, e2)) ∧ I e2) : ∀ (ds : List D) (env : En), (∀ d ∈ ds, P d) → I env → ∃ env', forL as b ds env = some (.nx, env') ∧ I env'
  | [], env, _, h => ⟨env, rfl, h⟩
  | d :: ds, env, hp, h => by
    obtain ⟨e1, h1, e2, h2, h3⟩ := step d env (hp d (by simp)) h
    obtain ⟨e3, h4, h5⟩ := for_inv step ds e2 (fun d hd => hp d (by simp [hd])) h3
    refine ⟨e3, ?_, h5⟩
    unfold forL
    rw [h1]
    rcases h2 with h2 | h2 <;> (simp only [h2]; exact h4)
/-- with what was walked so far -/
theorem for_at {as : D → En → Option En} {b : SE} {I : Nat → En → Prop} : ∀ (ds : List D) (k : Nat) (env : En), (∀ i env d, ds[i]? = some d → I (k + i) env → ∃ e1, as d env = some e1 ∧ ∃ e2, (b e1 = some (.nx, e2) ∨ b e1 = some (.ct, e2)) ∧ I (k + i + 1) e2) → I k env → ∃ env', forL as b ds env = some (.nx, env') ∧ I (k + ds.length) env'
  | [], k, env, _, h => ⟨env, rfl, h⟩
  | d :: ds, k, env, step, h => by
    obtain ⟨e1, h1, e2, h2, h3⟩ := step 0 env d rfl h
    obtain ⟨e3, h4, h5⟩ := for_at (I := I) ds (k + 1) e2 (fun i env d hd hi => by
      have := step (i + 1) env d (by simpa using hd) (by rw [show k + (i + 1) = k + 1 + i by omega]; exact hi)
      rw [show k + (i + 1) + 1 = k + 1 + i + 1 by omega] at this
      exact this) h3
    refine ⟨e3, ?_, by rw [List.length_cons, show k + (ds.length + 1) = k + 1 + ds.length by omega]; exact h5⟩
    unfold forL
    rw [h1]
    rcases h2 with h2 | h2 <;> (simp only [h2]; exact h4)
theorem cut_mem {α : Type} {xs : List α} {lo hi : Option Int} {x : α} (h : x ∈ cut xs lo hi) : x ∈ xs := List.mem_of_mem_drop (List.mem_of_mem_take h)
theorem cut_len {α : Type} {xs : List α} {lo hi : Option Int} : (cut xs lo hi).length ≤ xs.length := by
  unfold cut
  rw [List.length_take, List.length_drop]
  omega
end Py

set_option Elab.async false
set_option linter.all false
set_option maxRecDepth 100000
set_option maxHeartbeats 4000000
/-! Own layer: dicts with numbers and texts as keys. -/
namespace Py
open PySem PySem.Spec PyProof.Rows L2

/-! ### lists of keys and values -/
def dlk {α : Type} : List Key → List α → Key → Option α
  | k' :: ks, x :: xs, k => if k' = k then some x else dlk ks xs k
  | _, _, _ => none
def setV {α : Type} : List Key → List α → Key → α → List α
  | k' :: ks, x :: xs, k, v => (if k' = k then v else x) :: setV ks xs k v
  | _, xs, _, _ => xs
def hasK (ks : List Key) (k : Key) : Bool := ks.any fun j => decide (j = k)
def dpk (ks : List Key) (k : Key) : List Key := if hasK ks k = true then ks else ks ++ [k]
def dpv {α : Type} (ks : List Key) (xs : List α) (k : Key) (v : α) : List α := if hasK ks k = true then setV ks xs k v else xs ++ [v]
theorem setV_len {α : Type} : ∀ (ks : List Key) (xs : List α) (k : Key) (v : α), (setV ks xs k v).length = xs.length
  | [], xs, _, _ => by cases xs <;> rfl
  | _ :: _, [], _, _ => rfl
  | _ :: ks, _ :: xs, k, v => by show (setV ks xs k v).length + 1 = _; rw [setV_len ks xs k v]; rfl
theorem dp_len {α : Type} {ks : List Key} {xs : List α} {k : Key} {v : α} (h : ks.length = xs.length) : (dpk ks k).length = (dpv ks xs k v).length := by
  unfold dpk dpv
  split
  · rw [setV_len]; exact h
  · simp [h]
theorem valV_zip : ∀ {ks : List Key} {vs : List V} {k : Key}, valV (ks.zip vs) k = dlk ks vs k
  | [], vs, k => by cases vs <;> rfl
  | _ :: _, [], k => rfl
  | k' :: ks, v :: vs, k => by
    rw [List.zip_cons_cons]
    by_cases e : k' = k
    · rw [valV_pos (p := (k', v)) e, dlk, if_pos e]
    · rw [valV_neg (p := (k', v)) e, dlk, if_neg e, valV_zip]
theorem any_zip : ∀ {ks : List Key} {vs : List V} {k : Key}, ks.length = vs.length → ((ks.zip vs).any fun kv => decide (kv.1 = k)) = hasK ks k
  | [], vs, k, _ => by cases vs <;> rfl
  | _ :: _, [], k, h => by cases h
  | k' :: ks, v :: vs, k, h => by
    rw [List.zip_cons_cons, List.any_cons, any_zip (by simpa using h)]
    rfl
theorem map_zip : ∀ {ks : List Key} {vs : List V} {k : Key} {v : V}, ((ks.zip vs).map fun kv => if kv.1 = k then (kv.1, v) else kv) = ks.zip (setV ks vs k v)
  | [], vs, k, v => by cases vs <;> rfl
  | _ :: _, [], k, v => rfl
  | k' :: ks, x :: vs, k, v => by
    rw [List.zip_cons_cons, List.map_cons, map_zip]
    show _ = (k', if k' = k then v else x) :: ks.zip (setV ks vs k v)
    by_cases e : k' = k
    · rw [if_pos (show (k', x).1 = k from e), if_pos e]
    · rw [if_neg (show ¬ (k', x).1 = k from e), if_neg e]
theorem putK_zip {ks : List Key} {vs : List V} {k : Key} {v : V} (h : ks.length = vs.length) : putK (ks.zip vs) k v = (dpk ks k).zip (dpv ks vs k v) := by
  unfold putK dpk dpv
  rw [any_zip h]
  by_cases e : hasK ks k = true
  · rw [if_pos e, if_pos e, if_pos e, map_zip]
  · rw [if_neg e, if_neg e, if_neg e, List.zip_append h]
    rfl
theorem Reps.dlk {K : PySem.W.Frag} {G : Hp} : ∀ {ks : List Key} {vs : List V} {ds : List D} {k : Key}, Reps K G vs ds → match Py.dlk ks ds k with
    | some d => ∃ v, Py.dlk ks vs k = some v ∧ Rep K G v d
    | none => Py.dlk ks vs k = none
  | [], vs, ds, k, r => by cases r <;> exact rfl
  | _ :: _, _, _, k, .nil => rfl
  | k' :: ks, _, _, k, .cons (v := v) (d := d) h r => by
    have ih := Reps.dlk (ks := ks) (k := k) r
    by_cases e : k' = k
    · simp only [Py.dlk, if_pos e]; exact ⟨_, rfl, h⟩
    · simp only [Py.dlk, if_neg e]; exact ih
theorem Reps.setV {K : PySem.W.Frag} {G : Hp} {x : V} {y : D} (q : Rep K G x y) : ∀ {ks : List Key} {vs : List V} {ds : List D} {k : Key}, Reps K G vs ds → Reps K G (Py.setV ks vs k x) (Py.setV ks ds k y)
  | [], _, _, k, r => by cases r <;> first | exact .nil | (rename_i h r; exact .cons h r)
  | _ :: _, _, _, k, .nil => .nil
  | k' :: ks, _, _, k, .cons h r => by
    have ih := Reps.setV q (ks := ks) (k := k) r
    by_cases e : k' = k
    · simp only [Py.setV, if_pos e]; exact .cons q ih
    · simp only [Py.setV, if_neg e]; exact .cons h ih
theorem Reps.dpv {K : PySem.W.Frag} {G : Hp} {x : V} {y : D} (q : Rep K G x y) {ks : List Key} {vs : List V} {ds : List D} {k : Key} (r : Reps K G vs ds) : Reps K G (Py.dpv ks vs k x) (Py.dpv ks ds k y) := by
  unfold Py.dpv
  split
  · exact r.setV q
  · exact r.append (.cons q .nil)

/-! ### values -/
def asK : D → Option Key
  | .int i => some (.inl i)
  | .str x => some (.inr x)
  | _ => none
theorem asK_ok {K : PySem.W.Frag} {H : Hp} {d : D} {k : Key} {v : V} (h : asK d = some k) (r : Rep K H v d) : v = kV k := by
  cases d with
  | int i => cases h; cases r; rfl
  | str x => cases h; cases r; rfl
  | _ => cases h
section
variable {K : PySem.W.Frag} {k : Kd} {H H' H2 : Hp} {fp Z : List Addr} {v : V} {d : D}
theorem HK.dic {ks : List Key} {ds : List D} (h : HK K k H fp Z H' v (.dic ks ds)) : ∃ a vs, v = .ref a ∧ H' a = some (.dK (ks.zip vs)) ∧ ks.length = vs.length ∧ Reps K (k.G fp Z H') vs ds := by
  have key : ∀ {k : Kd}, k.clean = true → HK K .u H fp Z H' v (.dic ks ds) → ∃ a vs, v = .ref a ∧ H' a = some (.dK (ks.zip vs)) ∧ ks.length = vs.length ∧ Reps K (k.G fp Z H') vs ds := fun hk h => by
    unfold Kd.G
    rw [if_pos hk]
    cases h with
    | dic q l r => exact ⟨_, _, rfl, hid_sub _ _ q, l, r⟩
  have gen : ∀ {k : Kd}, k.clean = false → HK K k H fp Z H' v (.dic ks ds) → ∃ a vs, v = .ref a ∧ H' a = some (.dK (ks.zip vs)) ∧ ks.length = vs.length ∧ Reps K (k.G fp Z H') vs ds := fun hk h => by
    unfold Kd.G
    rw [if_neg (by rw [hk]; decide)]
    cases h.rep with
    | dic q l r => exact ⟨_, _, rfl, q, l, r⟩
  cases k with
  | u => exact key rfl h
  | t => exact gen rfl h
  | nw s => exact key (k := .nw s) rfl h.nwU
  | vw s =>
    cases s with
    | fz =>
      obtain ⟨fv, a, n, t⟩ := h
      cases t with
      | fz t => exact key (k := .vw .fz) rfl t
    | dk s =>
      cases s with
      | fz =>
        obtain ⟨fv, a, n, t⟩ := h
        cases t with
        | dk q l r => exact ⟨_, _, rfl, q, l, (Trs.fzs r).2⟩
      | _ => exact gen rfl h
    | un =>
      obtain ⟨fv, a, n, t⟩ := h
      cases t with
      | un1 t => cases t
      | un2 t _ => exact key (k := .vw .un) rfl t
    | _ =>
      obtain ⟨fv, a, n, t⟩ := h
      cases t
end
section
variable {X : Cx} {xc : Nat → Addr} {W : WX} {np : Nat} {Γ : List Sh} {rk : Kd} {a b c e f o : Expr} {fa fb fo ff : En → Option D} {m : IE} {ka kb ko kf k : Kd} {pos p2 p3 apos cpos : Pos}
/-- {} -/
def dnwF : En → Option D := c0 (.dic [] [])
theorem s_dnew : SP X Γ (.Dict [] [] pos) dnwF (.nw (.dk .fz)) := ⟨_, pe_dnewK, fun σ H Q env fp Z d E hf hQ p hp => by
  cases hf
  have hpO := E.fresh hp
  refine hQ _ _ (Sub.upd hp) ⟨[p], fun b hb => ?_, by simp, .dk (fp := []) (ks := []) (vs := []) upd_same rfl .nil⟩
  have e : b = p := by simpa using hb
  subst e
  exact ⟨hp, hpO⟩⟩
/-- k in d, k not in d -/
def dinD (x y : D) : Option D := match y with
  | .dic ks ds => (asK x).map fun k => .bl (dlk ks ds k).isSome
  | _ => none
def dnotinD (x y : D) : Option D := match y with
  | .dic ks ds => (asK x).map fun k => .bl (!(dlk ks ds k).isSome)
  | _ => none
theorem op_din (hu : X.A.units + 1 < cLine) : OpR X (compareOp .In) (fun x y H Q => ∃ a o, y = .ref a ∧ DGet H a x o ∧ Q (.bl o.isSome) H) := by
  intro pins s σ H x y v u Q I rx ry h
  obtain ⟨a, o, rfl, g, q⟩ := h
  cases ry
  exact d_in hu I g rx fun s3 I3 => ⟨.bl o.isSome, H, I3, rfl, q⟩
theorem op_dnotin (hu : X.A.units + 1 < cLine) : OpR X (compareOp .NotIn) (fun x y H Q => ∃ a o, y = .ref a ∧ DGet H a x o ∧ Q (.bl (!o.isSome)) H) := by
  intro pins s σ H x y v u Q I rx ry h
  obtain ⟨a, o, rfl, g, q⟩ := h
  cases ry
  exact d_notIn hu I g rx fun s3 I3 => ⟨.bl (!o.isSome), H, I3, rfl, q⟩
theorem dlk_some {K : PySem.W.Frag} {G : Hp} {ks : List Key} {vs : List V} {ds : List D} {k : Key} (r : Reps K G vs ds) : (dlk ks vs k).isSome = (dlk ks ds k).isSome := by
  have z := r.dlk (ks := ks) (k := k)
  cases e : dlk ks ds k with
  | some d => rw [e] at z; obtain ⟨v, h, _⟩ := z; rw [h] <;> rfl
  | none => rw [e] at z; rw [show dlk ks vs k = none from z] <;> rfl
theorem fl_din : Fl2 X.K (fun x y H Q => ∃ a o, y = .ref a ∧ DGet H a x o ∧ Q (.bl o.isSome) H) dinD := fun x y dx dy d H hx hy h => by
  unfold dinD at h
  split at h
  · rename_i ks ds
    obtain ⟨k, hk, e⟩ := Option.map_eq_some_iff.mp h
    subst e
    have ex := asK_ok hk hx
    subst ex
    cases hy with
    | dic q l r =>
      refine ⟨rfl, fun Q z => ⟨_, _, rfl, DGet.k q, ?_⟩⟩
      rw [valV_zip, dlk_some r]
      exact z
  · cases h
theorem fl_dnotin : Fl2 X.K (fun x y H Q => ∃ a o, y = .ref a ∧ DGet H a x o ∧ Q (.bl (!o.isSome)) H) dnotinD := fun x y dx dy d H hx hy h => by
  unfold dnotinD at h
  split at h
  · rename_i ks ds
    obtain ⟨k, hk, e⟩ := Option.map_eq_some_iff.mp h
    subst e
    have ex := asK_ok hk hx
    subst ex
    cases hy with
    | dic q l r =>
      refine ⟨rfl, fun Q z => ⟨_, _, rfl, DGet.k q, ?_⟩⟩
      rw [valV_zip, dlk_some r]
      exact z
  · cases h
/-- d[k] -/
def dixD (x y : D) : Option D := match x with
  | .dic ks ds => (asK y).bind fun k => dlk ks ds k
  | _ => none
theorem s_dix (hu : X.A.units + 1 < cLine) (ha : SP X Γ a fa ka) (hb : SP X Γ b fb kb) (hs : NoSl b := by first | exact (fun _ _ => rfl) | (intro _ _; rfl)) : SP X Γ (.Subscript a b pos) (b2 fa fb dixD) ka.el := by
  obtain ⟨ta, pa, qa⟩ := ha.ex
  obtain ⟨tb, pb, qb⟩ := hb.ex
  refine ⟨_, pe_dget hu pa pb hs, fun σ H Q env fp Z d E hf hQ => ?_⟩
  obtain ⟨x, y, hx, hy, hd⟩ := bind2 hf
  refine two qa qb E hx hy fun v w H' s h1 h2 => ?_
  cases x with
  | dic ks ds =>
    obtain ⟨k, hk, hl⟩ := Option.bind_eq_some_iff.mp (show (asK y).bind _ = some d from hd)
    have ey := asK_ok hk h2.rep
    subst ey
    obtain ⟨p, vs, rfl, q, l, r⟩ := h1.dic
    have z := r.dlk (ks := ks) (k := k)
    rw [hl] at z
    obtain ⟨u, hu2, ru⟩ := z
    refine ⟨p, u, rfl, ?_, hQ u H' s (HK.el ru)⟩
    rw [← hu2, ← valV_zip]
    exact DGet.k q
  | _ => cases hd
/-- d.get(k), d.get(k, x) -/
def dg1D (x y : D) : Option D := match x with
  | .dic ks ds => (asK y).map fun k => (dlk ks ds k).getD .non
  | _ => none
def dg2D (x y z : D) : Option D := match x with
  | .dic ks ds => (asK y).map fun k => (dlk ks ds k).getD z
  | _ => none
theorem s_dget1 (hu : X.A.units + 1 < cLine) (ha : SP X Γ o fo ko) (hb : SP X Γ e fa ka) (m : M1 X o "get" apos e cpos := by exact ⟨rfl, rfl, rfl, rfl⟩) : SP X Γ (.Call (.Attribute o "get" apos) [e] [] cpos) (b2 fo fa dg1D) ko.el := by
  obtain ⟨ta, pa, qa⟩ := ha.ex
  obtain ⟨tb, pb, qb⟩ := hb.ex
  refine ⟨_, pe_dget1 hu pa pb m, fun σ H Q env fp Z d E hf hQ => ?_⟩
  obtain ⟨x, y, hx, hy, hd⟩ := bind2 hf
  cases x with
  | dic ks ds =>
    obtain ⟨k, hk, hl⟩ := Option.map_eq_some_iff.mp (show (asK y).map _ = some d from hd)
    refine qa σ H _ env fp Z _ E hx fun v H1 s1 h1 => ?_
    obtain ⟨p, vs, rfl, q, l, r⟩ := h1.dic
    refine ⟨p, rfl, .inl ⟨_, .inl q⟩, qb σ H1 _ env fp Z _ (E.same s1) hy fun w H2 s2 h2 => ?_⟩
    have ey := asK_ok hk h2.rep
    subst ey
    have q2 := s2 _ _ q
    refine ⟨_, DGet.k q2, ?_⟩
    rw [valV_zip]
    have r2 : Reps X.K (ko.G fp Z H2) vs ds := r.mono (by
      unfold Kd.G
      split
      · exact hid_mono s2
      · exact s2)
    have z := r2.dlk (ks := ks) (k := k)
    subst hl
    cases hd2 : dlk ks ds k with
    | some d2 =>
      rw [hd2] at z
      obtain ⟨u, hu2, ru⟩ := z
      rw [hu2]
      rw [hd2] at hQ
      exact hQ u H2 (s1.trans s2) (HK.el ru)
    | none =>
      rw [hd2] at z
      rw [show dlk ks vs k = none from z]
      rw [hd2] at hQ
      exact hQ _ H2 (s1.trans s2) (HK.el .non)
  | _ => cases hd
def b3D (f g h : En → Option D) (m : D → D → D → Option D) : En → Option D := fun env => (f env).bind fun x => (g env).bind fun y => (h env).bind fun z => m x y z
theorem s_dget2 (hu : X.A.units + 1 < cLine) (ha : SP X Γ o fo ko) (hb : SP X Γ e fa ka) (hc : SP X Γ f ff kf) (m : M2 X o "get" apos e f cpos := by exact ⟨rfl, rfl, rfl, rfl⟩) (ck : kf.cu = true := by rfl) : SP X Γ (.Call (.Attribute o "get" apos) [e, f] [] cpos) (b3D fo fa ff dg2D) ko.el := by
  obtain ⟨ta, pa, qa⟩ := ha.ex
  obtain ⟨tb, pb, qb⟩ := hb.ex
  obtain ⟨tc, pc, qc⟩ := hc.ex
  refine ⟨_, pe_dget2 hu pa pb pc m, fun σ H Q env fp Z d E hf hQ => ?_⟩
  obtain ⟨x, hx, hf⟩ := Option.bind_eq_some_iff.mp hf
  obtain ⟨y, hy, hf⟩ := Option.bind_eq_some_iff.mp hf
  obtain ⟨z, hz, hd⟩ := Option.bind_eq_some_iff.mp hf
  cases x with
  | dic ks ds =>
    obtain ⟨k, hk, hl⟩ := Option.map_eq_some_iff.mp (show (asK y).map _ = some d from hd)
    refine qa σ H _ env fp Z _ E hx fun v H1 s1 h1 => ?_
    obtain ⟨p, vs, rfl, q, l, r⟩ := h1.dic
    refine ⟨p, rfl, .inl ⟨_, .inl q⟩, qb σ H1 _ env fp Z _ (E.same s1) hy fun w H2 s2 h2 => ?_⟩
    refine qc σ H2 _ env fp Z _ ((E.same s1).same s2) hz fun w3 H3 s3 h3 => ?_
    have ey := asK_ok hk h2.rep
    subst ey
    have s23 := s2.trans s3
    have q2 := s23 _ _ q
    refine ⟨_, DGet.k q2, ?_⟩
    rw [valV_zip]
    have r2 : Reps X.K (ko.G fp Z H3) vs ds := r.mono (by
      unfold Kd.G
      split
      · exact hid_mono s23
      · exact s23)
    have zz := r2.dlk (ks := ks) (k := k)
    subst hl
    cases hd2 : dlk ks ds k with
    | some d2 =>
      rw [hd2] at zz
      obtain ⟨u, hu2, ru⟩ := zz
      rw [hu2]
      rw [hd2] at hQ
      exact hQ u H3 (s1.trans s23) (HK.el ru)
    | none =>
      rw [hd2] at zz
      rw [show dlk ks vs k = none from zz]
      rw [hd2] at hQ
      refine hQ _ H3 (s1.trans s23) ?_
      show HK X.K ko.el H fp Z H3 w3 z
      have hz' := h3.toU ck
      unfold Kd.el
      split
      · exact hz'
      · exact Rep.mono hid_sub hz'
  | _ => cases hd
/-! ### own dicts -/
theorem Tr.dkFz {K : PySem.W.Frag} {H G : Hp} {v : V} {d : D} {fp : List Addr} (t : Tr K H G (.dk .fz) v d fp) : ∃ a ks vs ds, v = .ref a ∧ d = .dic ks ds ∧ fp = [a] ∧ H a = some (.dK (ks.zip vs)) ∧ ks.length = vs.length ∧ Reps K G vs ds := by
  cases t with
  | dk h l r =>
    obtain ⟨e, q⟩ := Trs.fzs r
    subst e
    exact ⟨_, _, _, _, rfl, rfl, rfl, h, l, q⟩
theorem EOk.dset {K : PySem.W.Frag} {Γ : List Sh} {env : En} {σ : L2.St} {H : Hp} {fp Z : List Addr} (E : EOk K Γ env σ H fp Z) {i : Nat} {ks : List Key} {ds : List D} (hs : Γ[i]? = some (.dk .fz)) (hd : env[i]? = some (some (.dic ks ds))) :
    ∃ a vs, σ[i]? = some (some (.ref a)) ∧ H a = some (.dK (ks.zip vs)) ∧ ks.length = vs.length ∧ Reps K (hid (fp ++ Z) H) vs ds ∧ ∀ js us es, js.length = us.length → Reps K (hid (fp ++ Z) H) us es → ∃ fp', EOk K Γ (env.set i (some (.dic js es))) σ (upd H a (.dK (js.zip us))) fp' Z ∧ Ext H fp (upd H a (.dK (js.zip us))) fp' := by
  obtain ⟨v, f2, rest, hv, tr, n2, in2, hrest, hsp, cont⟩ := E.own hs hd
  obtain ⟨a, ks', vs, ds', rfl, e, rfl, ha, l, r⟩ := tr.dkFz
  cases e
  refine ⟨a, vs, hv, ha, l, r, fun js us es hl ru => ?_⟩
  have x : Ext H [a] (upd H a (.dK (js.zip us))) [a] := ⟨fun b o h n => by rw [upd_ne (by simpa using n)]; exact h, fun b hb => .inl hb, fun b hb _ => by
    have : b = a := by simpa using hb
    subst this
    rw [upd_same]; simp⟩
  have sG : Sub (hid (fp ++ Z) H) (hid ([a] ++ (rest ++ ([] ++ Z))) (upd H a (.dK (js.zip us)))) := fun b o h => by
    obtain ⟨h1, h2⟩ := hid_some h
    have na : b ≠ a := fun z => h1 (by rw [z]; exact List.mem_append_left _ (in2 a (by simp)))
    rw [hid_of, upd_ne na]
    · exact h2
    · intro z
      rcases List.mem_append.mp z with z | z
      · exact na (by simpa using z)
      · rcases List.mem_append.mp z with z | z
        · exact h1 (List.mem_append_left _ (hrest b z).1)
        · exact h1 (List.mem_append_right _ z)
  obtain ⟨E2, x2⟩ := cont (upd H a (.dK (js.zip us))) [a] [] (.dic js es) (fun _ z => nomatch z) x ⟨[a], .dk (fp := []) upd_same hl (Trs.ofFz (ru.mono sG)), by simp, fun b hb => hb⟩ fun b hb => by
    have : b = a := by simpa using hb
    subst this
    exact ⟨_, upd_same, nt_dK _⟩
  exact ⟨_, E2, x2⟩
def onD (i : Nat) (j d : D) (env : En) : Option En := match env[i]? with
  | some (some (.dic ks ds)) => (asK j).bind fun k => if ks.length < sizeLine then some (env.set i (some (.dic (dpk ks k) (dpv ks ds k d)))) else none
  | _ => none
theorem onD_ok {i : Nat} {j d : D} {env env' : En} (h : onD i j d env = some env') : ∃ ks ds k, env[i]? = some (some (.dic ks ds)) ∧ asK j = some k ∧ ks.length < sizeLine ∧ env' = env.set i (some (.dic (dpk ks k) (dpv ks ds k d))) := by
  unfold onD at h
  split at h
  · rename_i ks ds q
    obtain ⟨k, hk, h⟩ := Option.bind_eq_some_iff.mp h
    split at h
    · rename_i c; cases h; exact ⟨ks, ds, k, q, hk, c, rfl⟩
    · cases h
  · cases h
/-- x[j] = e -/
theorem qs_dput (i : Nat) {x : Str} (hu : X.A.units + 1 < cLine) (he : SI X xc W Γ e m .u) (hi : SP X Γ b fb kb) (hN : X.N[i]? = some x := by rfl) (hv : Vis X.env.scope x := by first | exact Or.inl rfl | exact Or.inr (Or.inl rfl) | exact Or.inr (Or.inr rfl)) (hs : Γ[i]? = some (.dk .fz) := by rfl) (hd : (x == ("__debug__" : Str)) = false := by decide) (hcd : (x == ("__classdict__" : Str)) = false := by decide)
    (hsw : swapsWith e (some (.Subscript (.Name x p2) b p3)) pos.line X.env = pure false := by rfl) :
    SS X xc W np Γ rk (.Assign [.Subscript (.Name x p2) b p3] e pos) (qDo m fun d env => (fb env).bind fun j => onD i j d env) := by
  obtain ⟨t, p, q⟩ := he.ex
  obtain ⟨t2, pb, q2⟩ := hi.ex
  refine ⟨_, ps_dput hu (pe_var hN hv hd hcd) pb p hsw, fun D σ H env fp Z fl env' E hf hQ => ?_⟩
  unfold qDo at hf
  split at hf
  · rename_i d e1 h1
    obtain ⟨e2, h2, z⟩ := Option.map_eq_some_iff.mp hf
    cases z
    obtain ⟨j, hj, h2⟩ := Option.bind_eq_some_iff.mp h2
    obtain ⟨ks, ds, k, hx, hk, hlen, rfl⟩ := onD_ok h2
    refine q σ H _ env fp Z _ e1 E h1 fun H1 f1 E1 x1 v hv => ?_
    obtain ⟨a0, vs0, hσ0, _⟩ := E1.dset hs hx
    refine ⟨_, hσ0, q2 σ H1 _ e1 f1 Z j E1 hj fun w H2 s2 hw => ?_⟩
    have E2 := E1.same s2
    obtain ⟨a', vs', hσ', ha', l', r', cont⟩ := E2.dset hs hx
    rw [hσ0] at hσ'; cases hσ'
    have ew := asK_ok hk hw.rep
    subst ew
    obtain ⟨fp', E3, x3⟩ := cont (dpk ks k) (dpv ks vs' k v) (dpv ks ds k d) (dp_len l') (r'.dpv (Rep.mono (hid_mono s2) hv))
    refine ⟨_, _, rfl, DPut.k ha' (by rw [List.length_zip, ← l', Nat.min_self]; exact hlen), ?_⟩
    rw [putK_zip l']
    exact hQ σ _ fp' E3 ((x1.trans (Ext.same s2)).trans x3) Prot.refl
  · rename_i cc dd e1 h1
    cases hf
    exact q σ H _ env fp Z _ env' E h1 fun H1 f1 E1 x1 cls od hx => hQ σ H1 f1 E1 x1 Prot.refl cls od hx
  · cases hf
end
end Py

set_option Elab.async false
set_option linter.all false
set_option maxRecDepth 100000
set_option maxHeartbeats 4000000
/-! Own layer: more of the pure functions. -/
namespace Py
open PySem PySem.Spec PyProof.Rows L2
theorem at_nat {α : Type} {xs : List α} {i : Nat} (h : i < xs.length) : atI xs (i : Int) = some xs[i] := by
  unfold atI ixN
  rw [if_pos (by omega), if_pos (by omega)]
  show xs[(i : Int).toNat]? = _
  rw [Int.toNat_natCast]
  exact List.getElem?_eq_getElem h
theorem at_int {α : Type} {xs : List α} {i : Int} (h0 : 0 ≤ i) (h : i < xs.length) : ∃ x, atI xs i = some x ∧ xs[i.toNat]? = some x := by
  obtain ⟨n, rfl⟩ := Int.eq_ofNat_of_zero_le h0
  refine ⟨xs[n]'(by omega), at_nat (by omega), ?_⟩
  exact List.getElem?_eq_getElem (by omega)
theorem at_m1 {α : Type} {xs : List α} {x : α} : atI (xs ++ [x]) (-1) = some x := by
  unfold atI ixN
  rw [if_neg (by omega), if_pos (by rw [List.length_append]; simp only [List.length_cons, List.length_nil]; omega)]
  show (xs ++ [x])[(-1 + ((xs ++ [x]).length : Int)).toNat]? = _
  have e : (-1 + ((xs ++ [x]).length : Int)).toNat = xs.length := by rw [List.length_append]; simp only [List.length_cons, List.length_nil]; omega
  rw [e, List.getElem?_append_right (Nat.le_refl _), Nat.sub_self]
  rfl
theorem rg1_nat {n : Nat} (h : n ≤ 1000000000) : rg1 [.int (n : Int)] = some ((List.range n).map fun (i : Nat) => D.int (i : Int)) := by
  simp only [rg1]
  rw [if_pos (by omega), Int.toNat_natCast]
  unfold rngL
  refine congrArg some ?_
  refine List.map_congr_left fun i _ => ?_
  rw [Int.zero_add]
theorem len_l {xs : List D} : lenD [.lst xs] = some (.int (xs.length : Nat)) := rfl
theorem len_t {xs : List D} : lenD [.tup xs] = some (.int (xs.length : Nat)) := rfl
theorem lcL_spec {as : D → En → Option En} {tt : En → Option Bool} {fe : En → Option D} {env : En} {p : D → Bool} {g : D → D} : ∀ ds : List D, (∀ d ∈ ds, ∃ e1, as d env = some e1 ∧ tt e1 = some (p d) ∧ (p d = true → fe e1 = some (g d))) → lcL as tt fe env ds = some ((ds.filter p).map g)
  | [], _ => rfl
  | d :: ds, h => by
    obtain ⟨e1, h1, h2, h3⟩ := h d (by simp)
    have ih := lcL_spec ds fun d hd => h d (by simp [hd])
    unfold lcL
    rw [h1]
    simp only [Option.bind_some, h2]
    cases hp : p d with
    | true =>
      rw [if_pos rfl, h3 hp, ih, List.filter_cons, if_pos hp]
      rfl
    | false =>
      rw [if_neg Bool.false_ne_true, ih, List.filter_cons, if_neg (by rw [hp]; exact Bool.false_ne_true)]
/-- each element by what it gives -/
theorem lcL_rel {as : D → En → Option En} {fe : En → Option D} {env : En} {R : D → D → Prop} : ∀ ds : List D, (∀ d ∈ ds, ∃ e1 y, as d env = some e1 ∧ fe e1 = some y ∧ R d y) → ∃ ys, lcL as tyes fe env ds = some ys ∧ ys.length = ds.length ∧ (∀ (i : Nat) d y, ds[i]? = some d → ys[i]? = some y → R d y)
  | [], _ => ⟨[], rfl, rfl, fun i d y h => by simp at h⟩
  | d :: ds, h => by
    obtain ⟨e1, y, h1, h2, h3⟩ := h d (by simp)
    obtain ⟨ys, i1, i2, i3⟩ := lcL_rel ds fun d hd => h d (by simp [hd])
    refine ⟨y :: ys, ?_, by rw [List.length_cons, List.length_cons, i2], fun i d' y' hd hy => ?_⟩
    · unfold lcL
      rw [h1]
      simp only [Option.bind_some, tyes, if_true, h2]
      rw [i1]
      rfl
    · cases i with
      | zero => cases hd; cases hy; exact h3
      | succ i => exact i3 i d' y' (by simpa using hd) (by simpa using hy)
theorem ls_len {xs : List D} (h : xs.length ≤ 16777216) : lstD xs = some (.lst xs) := if_pos (by rw [sizeLine_eq]; exact h)
theorem tp_len {xs : List D} (h : xs.length ≤ 16777216) : tupD xs = some (.tup xs) := if_pos (by rw [sizeLine_eq]; exact h)
theorem ap_len {x : D} {xs : List D} (h : xs.length < 16777216) : apL x xs = some (xs ++ [x]) := if_pos (by rw [sizeLine_eq]; exact h)
theorem srt_ints {ns : List Int} (h : ns.length < 64) : srtD (.lst (ns.map .int)) = some (.lst ((sdd ns).map .int)) := by
  show (ints? (ns.map D.int)).bind _ = _
  rw [ints?_map]
  exact if_pos h
/-- the numbers that are in the list, by rising number -/
theorem sdd_range {ns : List Int} {n : Nat} (h : ∀ k ∈ ns, 0 ≤ k ∧ k < n) : sdd ns = ((List.range n).map fun (i : Nat) => (i : Int)).filter fun i => decide (i ∈ ns) := by
  refine pw_unique sdd_pw (List.Pairwise.filter _ ?_) fun k => ?_
  · rw [List.pairwise_map]
    exact List.Pairwise.imp (fun h => by omega) List.pairwise_lt_range
  · rw [sdd_mem, List.mem_filter, decide_eq_true_eq]
    refine ⟨fun m => ⟨List.mem_map.mpr ⟨k.toNat, List.mem_range.mpr ?_, ?_⟩, m⟩, fun m => m.2⟩
    · have := h k m; omega
    · have := h k m; omega
theorem onD0 {e : En} {ks : List Key} {ds : List D} {j d : D} : onD 0 j d (some (.dic ks ds) :: e) = (asK j).bind fun k => if ks.length < sizeLine then some (some (.dic (dpk ks k) (dpv ks ds k d)) :: e) else none := rfl
theorem onD1 {x0 : Option D} {e : En} {ks : List Key} {ds : List D} {j d : D} : onD 1 j d (x0 :: some (.dic ks ds) :: e) = (asK j).bind fun k => if ks.length < sizeLine then some (x0 :: some (.dic (dpk ks k) (dpv ks ds k d)) :: e) else none := rfl
theorem onD2 {x0 x1 : Option D} {e : En} {ks : List Key} {ds : List D} {j d : D} : onD 2 j d (x0 :: x1 :: some (.dic ks ds) :: e) = (asK j).bind fun k => if ks.length < sizeLine then some (x0 :: x1 :: some (.dic (dpk ks k) (dpv ks ds k d)) :: e) else none := rfl
theorem onD3 {x0 x1 x2 : Option D} {e : En} {ks : List Key} {ds : List D} {j d : D} : onD 3 j d (x0 :: x1 :: x2 :: some (.dic ks ds) :: e) = (asK j).bind fun k => if ks.length < sizeLine then some (x0 :: x1 :: x2 :: some (.dic (dpk ks k) (dpv ks ds k d)) :: e) else none := rfl
theorem onD4 {x0 x1 x2 x3 : Option D} {e : En} {ks : List Key} {ds : List D} {j d : D} : onD 4 j d (x0 :: x1 :: x2 :: x3 :: some (.dic ks ds) :: e) = (asK j).bind fun k => if ks.length < sizeLine then some (x0 :: x1 :: x2 :: x3 :: some (.dic (dpk ks k) (dpv ks ds k d)) :: e) else none := rfl
theorem onD5 {x0 x1 x2 x3 x4 : Option D} {e : En} {ks : List Key} {ds : List D} {j d : D} : onD 5 j d (x0 :: x1 :: x2 :: x3 :: x4 :: some (.dic ks ds) :: e) = (asK j).bind fun k => if ks.length < sizeLine then some (x0 :: x1 :: x2 :: x3 :: x4 :: some (.dic (dpk ks k) (dpv ks ds k d)) :: e) else none := rfl
theorem onD6 {x0 x1 x2 x3 x4 x5 : Option D} {e : En} {ks : List Key} {ds : List D} {j d : D} : onD 6 j d (x0 :: x1 :: x2 :: x3 :: x4 :: x5 :: some (.dic ks ds) :: e) = (asK j).bind fun k => if ks.length < sizeLine then some (x0 :: x1 :: x2 :: x3 :: x4 :: x5 :: some (.dic (dpk ks k) (dpv ks ds k d)) :: e) else none := rfl
theorem onD7 {x0 x1 x2 x3 x4 x5 x6 : Option D} {e : En} {ks : List Key} {ds : List D} {j d : D} : onD 7 j d (x0 :: x1 :: x2 :: x3 :: x4 :: x5 :: x6 :: some (.dic ks ds) :: e) = (asK j).bind fun k => if ks.length < sizeLine then some (x0 :: x1 :: x2 :: x3 :: x4 :: x5 :: x6 :: some (.dic (dpk ks k) (dpv ks ds k d)) :: e) else none := rfl
theorem dlk_setV {α : Type} {k j : Key} {v : α} : ∀ {ks : List Key} {vs : List α}, ks.length = vs.length → dlk ks (setV ks vs k v) j = if k = j then (if hasK ks j = true then some v else none) else dlk ks vs j
  | [], vs, _ => by cases vs <;> (by_cases e : k = j <;> simp [e, dlk, setV, hasK])
  | _ :: _, [], h => by cases h
  | a :: ks, x :: vs, h => by
    have ih := dlk_setV (k := k) (j := j) (v := v) (ks := ks) (vs := vs) (by simpa using h)
    show dlk (a :: ks) ((if a = k then v else x) :: setV ks vs k v) j = _
    unfold dlk
    have hk : hasK (a :: ks) j = (decide (a = j) || hasK ks j) := rfl
    by_cases e1 : a = j
    · subst e1
      rw [if_pos rfl, if_pos rfl, hk]
      by_cases e2 : k = a
      · subst e2; simp
      · have e3 : ¬ a = k := fun z => e2 z.symm
        simp [e2, e3]
    · rw [if_neg e1, if_neg e1, ih, hk]
      simp [e1]
theorem hasK_dlk {α : Type} {k : Key} : ∀ {ks : List Key} {vs : List α}, ks.length = vs.length → hasK ks k = (dlk ks vs k).isSome
  | [], vs, _ => by cases vs <;> rfl
  | _ :: _, [], h => by cases h
  | a :: ks, x :: vs, h => by
    have ih := hasK_dlk (k := k) (ks := ks) (vs := vs) (by simpa using h)
    show (decide (a = k) || hasK ks k) = _
    unfold dlk
    by_cases e : a = k
    · simp [e]
    · simp [e, ih]
theorem dlk_app {α : Type} {k j : Key} {v : α} : ∀ {ks : List Key} {vs : List α}, ks.length = vs.length → dlk (ks ++ [k]) (vs ++ [v]) j = if hasK ks j = true then dlk ks vs j else if k = j then some v else none
  | [], [], _ => by
    show dlk [k] [v] j = if hasK [] j = true then _ else _
    rw [if_neg (by simp [hasK])]
    unfold dlk
    rfl
  | [], _ :: _, h => by cases h
  | _ :: _, [], h => by cases h
  | a :: ks, x :: vs, h => by
    have ih := dlk_app (k := k) (j := j) (v := v) (ks := ks) (vs := vs) (by simpa using h)
    show (if a = j then some x else dlk (ks ++ [k]) (vs ++ [v]) j) = if (decide (a = j) || hasK ks j) = true then (if a = j then some x else dlk ks vs j) else if k = j then some v else none
    by_cases e : a = j
    · rw [if_pos e, decide_eq_true e, Bool.true_or, if_pos rfl, if_pos e]
    · rw [if_neg e, ih, decide_eq_false e, Bool.false_or, if_neg e]
theorem dlk_put {α : Type} {k j : Key} {v : α} {ks : List Key} {vs : List α} (h : ks.length = vs.length) : dlk (dpk ks k) (dpv ks vs k v) j = if k = j then some v else dlk ks vs j := by
  unfold dpk dpv
  by_cases e : hasK ks k = true
  · rw [if_pos e, if_pos e, dlk_setV h]
    by_cases q : k = j
    · subst q; rw [if_pos rfl, if_pos rfl, if_pos e]
    · rw [if_neg q, if_neg q]
  · rw [if_neg e, if_neg e, dlk_app h]
    by_cases q : k = j
    · subst q; rw [if_neg e, if_pos rfl, if_pos rfl]
    · rw [if_neg q, if_neg q]
      have z := hasK_dlk (k := j) h
      by_cases w : hasK ks j = true
      · rw [if_pos w]
      · rw [if_neg w]
        cases hd : dlk ks vs j with
        | none => rfl
        | some x => rw [hd] at z; exact absurd z w
/-- a dict that holds the numbers of a list -/
def Near (l : List Int) (d : D) : Prop := ∃ ks vs, d = .dic ks vs ∧ ks.length = vs.length ∧ ks.length ≤ l.length ∧ ∀ k : Int, (dlk ks vs (.inl k)).isSome = decide (k ∈ l)
theorem near_nil : Near [] (.dic [] []) := ⟨[], [], rfl, rfl, Nat.le_refl _, fun k => by simp [dlk]⟩
theorem dpk_len {ks : List Key} {k : Key} : (dpk ks k).length ≤ ks.length + 1 := by
  unfold dpk
  split
  · omega
  · simp
theorem near_put {l : List Int} {ks : List Key} {vs : List D} {t : Int} {v : D} (h : Near l (.dic ks vs)) : Near (l ++ [t]) (.dic (dpk ks (.inl t)) (dpv ks vs (.inl t) v)) := by
  obtain ⟨ks', vs', e, h1, h2, h3⟩ := h
  cases e
  refine ⟨_, _, rfl, dp_len h1, Nat.le_trans dpk_len (by simp; omega), fun k => ?_⟩
  rw [dlk_put h1]
  by_cases q : t = k
  · subst q; rw [if_pos rfl]; simp
  · rw [if_neg (fun z => q (Sum.inl.inj z)), h3 k]
    have q2 : ¬ k = t := fun z => q z.symm
    simp [q2]
end Py

set_option Elab.async false
set_option linter.all false
set_option maxRecDepth 100000
set_option maxHeartbeats 4000000
/-! Own layer: max with a default; all, sum; what is walked two by two. -/
namespace Py
open PySem PySem.Spec PyProof.Rows L2

/-! ### max(list of ints, default=d) -/
section
variable {prog : Program} {w : World} {A : Around} {R : Result → Shared → Prop} {I : Addr} {fp wr : List Addr} {n : Nat} {P : Nat → Value → Prop} {St : Nat → Heap → Prop} {dv : Value}
theorem mx_loop (W : Walks prog w A.in1 I fp wr n P St) (bt : Nat → Nat → Bool) (hcmp : CmpOf prog w A.in1 .Gt P bt) (S : Addr) (hSf : S ∉ fp) :
    ∀ (k j : Nat) (s : Shared) (vb : Value) (c : Nat), n - (j + 1) = k → j + 1 ≤ n → St (j + 1) s.heap → P (argBest bt j) vb →
    s.heap.get? S = some { cls := .type "list", dict := none, data := .seq #[vb, vb] c, slots := #[] } →
    (∀ v h' tk, P (argBest bt (n - 1)) v → (∀ b o, b ∉ wr → b ≠ S → s.heap.get? b = some o → h'.get? b = some o) → R (.ok (.ret v)) { s with heap := h', toks := tk }) →
    codeAny (model prog w) A (.builtin "max.loop" ⟨[.ref I, .none, .ref S], [("default", dv)]⟩) R s := by
  have hSw : S ∉ wr := fun h => hSf (W.sub _ h)
  have nm : (toString "max" ++ toString ".loop" : String) = "max.loop" := by decide
  intro k
  induction k with
  | zero =>
    intro j s vb c hk hj hst hP hS hR
    have e : j + 1 = n := by omega
    refine codeAny_builtin F.entry_max_loop ?_
    rw [Around.under_plainId F.plain_max_loop _]
    show wpAny _ A.in1 (seqItems? (.ref S) >>= _) _ _ s
    refine wpAny_bind (wpAny_seqItems hS rfl ?_)
    show wpAny _ A.in1 (tryCatch (pyNext (.ref I)) _ >>= _) _ _ s
    refine wpAny_bind (wpAny_tryCatch (W.done s _ _ (e ▸ hst) fun h' tk hk' => ?_))
    have hS' := hk' S _ hSw hS
    show wpAny _ A.in1 (updateSeq S (fun _ => #[]) >>= _) _ _ _
    refine wpAny_bind (wpAny_updateSeq hS' rfl (wpAny_bind (wpAny_letGo (wpAny_pure ?_))))
    exact hR vb _ tk (by rw [← e]; exact hP) fun b o hw hb q => (Heap.get?_update_other _ _ (Ne.symm hb)).trans (hk' b o hw q)
  | succ k ih =>
    intro j s vb c hk hj hst hP hS hR
    have hlt : j + 1 < n := by omega
    refine codeAny_builtin F.entry_max_loop ?_
    rw [Around.under_plainId F.plain_max_loop _]
    show wpAny _ A.in1 (seqItems? (.ref S) >>= _) _ _ s
    refine wpAny_bind (wpAny_seqItems hS rfl ?_)
    show wpAny _ A.in1 (tryCatch (pyNext (.ref I)) _ >>= _) _ _ s
    refine wpAny_bind (wpAny_tryCatch (W.item (j + 1) s _ _ hlt hst fun v h' tk hPv hst' hk' => ?_))
    have hS' := hk' S _ hSw hS
    show wpAny _ A.in1 (tryCatch (holding [v, v] (richCompare .Gt v vb >>= _)) _ >>= _) _ _ _
    refine wpAny_bind (wpAny_tryCatch (wpAny_holding (wpAny_bind (hcmp (j + 1) (argBest bt j) v vb _ _ _ hPv hP ?_))))
    refine wpAny_bind (wpAny_holding (wpAny_truthy_bool ?_))
    refine wpAny_bind (wpAny_letGo (wpAny_pure ?_))
    cases hb : bt (j + 1) (argBest bt j) with
    | true =>
      simp only [if_true]
      refine wpAny_bind (wpAny_updateSeq hS' rfl (wpAny_bind (wpAny_letGo ?_)))
      rw [nm]
      refine wpAny_pure ⟨plainId_quiet F.plain_max_loop _, ih (j + 1) _ v _ (by omega) hlt (W.frame _ _ _ hst' fun b hbf o q => ?_) (by simp only [argBest, hb, if_true]; exact hPv) (Heap.get?_update_self _ hS' rfl)
        fun v' h2 tk2 hP2 hk2 => ?_⟩
      · exact (Heap.get?_update_other _ _ (fun h : S = b => hSf (by rw [h]; exact hbf))).trans q
      · exact hR v' h2 tk2 hP2 fun b o hw hbS q => hk2 b o hw hbS ((Heap.get?_update_other _ _ (Ne.symm hbS)).trans (hk' b o hw q))
    | false =>
      simp only [Bool.false_eq_true, if_false]
      refine wpAny_bind (wpAny_letGo ?_)
      rw [nm]
      refine wpAny_pure ⟨plainId_quiet F.plain_max_loop _, ih (j + 1) _ vb c (by omega) hlt hst' (by simp only [argBest, hb, Bool.false_eq_true, if_false]; exact hP) hS' fun v' h2 tk2 hP2 hk2 => ?_⟩
      exact hR v' h2 tk2 hP2 fun b o hw hbS q => hk2 b o hw hbS (hk' b o hw q)
theorem mx_first (W : Walks prog w A.in1 I fp wr n P St) (bt : Nat → Nat → Bool) (hcmp : CmpOf prog w A.in1 .Gt P bt) (S : Addr) (hSf : S ∉ fp) {s : Shared} {c : Nat} (hst : St 0 s.heap)
    (hS : s.heap.get? S = some { cls := .type "list", dict := none, data := .seq #[] c, slots := #[] })
    (hR : 0 < n → ∀ v h' tk, P (argBest bt (n - 1)) v → (∀ b o, b ∉ wr → b ≠ S → s.heap.get? b = some o → h'.get? b = some o) → R (.ok (.ret v)) { s with heap := h', toks := tk })
    (hE : n = 0 → ∀ h' tk, (∀ b o, b ∉ wr → b ≠ S → s.heap.get? b = some o → h'.get? b = some o) → R (.ok (.ret dv)) { s with heap := h', toks := tk }) :
    codeAny (model prog w) A (.builtin "max.loop" ⟨[.ref I, .none, .ref S], [("default", dv)]⟩) R s := by
  have hSw : S ∉ wr := fun h => hSf (W.sub _ h)
  have nm : (toString "max" ++ toString ".loop" : String) = "max.loop" := by decide
  refine codeAny_builtin F.entry_max_loop ?_
  rw [Around.under_plainId F.plain_max_loop _]
  show wpAny _ A.in1 (seqItems? (.ref S) >>= _) _ _ s
  refine wpAny_bind (wpAny_seqItems hS rfl ?_)
  show wpAny _ A.in1 (tryCatch (pyNext (.ref I)) _ >>= _) _ _ s
  by_cases hn : 0 < n
  · refine wpAny_bind (wpAny_tryCatch (W.item 0 s _ _ hn hst fun v h' tk hP hst' hk' => ?_))
    have hS' := hk' S _ hSw hS
    show wpAny _ A.in1 (updateSeq S (fun _ => #[v, v]) >>= _) _ _ _
    refine wpAny_bind (wpAny_updateSeq hS' rfl ?_)
    rw [nm]
    refine wpAny_pure ⟨plainId_quiet F.plain_max_loop _, mx_loop W bt hcmp S hSf _ 0 _ v _ rfl hn (W.frame _ _ _ hst' fun b hbf o e => ?_) hP (Heap.get?_update_self _ hS' rfl) fun v' h2 tk2 hP2 hk2 => ?_⟩
    · exact (Heap.get?_update_other _ _ (fun h : S = b => hSf (by rw [h]; exact hbf))).trans e
    · exact hR hn v' h2 tk2 hP2 fun b o hw hbS e => hk2 b o hw hbS ((Heap.get?_update_other _ _ (Ne.symm hbS)).trans (hk' b o hw e))
  · have e0 : n = 0 := by omega
    refine wpAny_bind (wpAny_tryCatch (W.done s _ _ (e0 ▸ hst) fun h' tk hk' => ?_))
    have q := hE e0 h' tk fun b o hw _ e => hk' b o hw e
    show wpAny _ A.in1 (rule _ >>= _) _ _ _
    exact wpAny_bind (wpAny_rule (wpAny_pure q))
end
section
variable {P : Program} {w : World} {A : Around} {E : Value → Shared → Prop} {s : Shared} {l : Addr} {its : List Value} {ns : List Int}
theorem args_maxd (a d : Value) : argsOk "max" ⟨[a], [("default", d)]⟩ := by unfold argsOk; kernel_rfl
theorem call_tree_kw {id : String} {b : Builtin} {args : List Value} {kw : List (Str × Value)} {Q : Value → Shared → Prop} (hk : builtinKind id = none) (hp : plainId id = true)
    (hb : entryFor table id = some b) (ha : argsOk id ⟨args, kw⟩)
    (hc : wpAny (model P w) A.in1 (b ⟨args, kw⟩) (fun fin s' => match fin with
      | .done f => (match (Except.ok f : Result) with | .ok (.ret v) => Q v s' | .ok _ => False | .error e => E e s')
      | .again c' => c'.quiet = true ∧ codeAny (model P w) A c' (fun r s' => match r with | .ok (.ret v) => Q v s' | .ok _ => False | .error e => E e s') s') E s) :
    wpAny (model P w) A (call (.builtin id) args kw) Q E s := by
  refine wpAny_call (codeAny_call_builtin hp hb ?_)
  simp only [checkBuiltinCall, hk]
  cases hsig : Manifest.signature? id with
  | none => exact wpAny_pure hc
  | some sig =>
    simp only [argsOk, hsig] at ha
    have h2 : Bind.checkArgs id sig ⟨args, kw⟩ = pure () := ha
    show wpAny _ A.in1 (Bind.checkArgs id sig ⟨args, kw⟩) _ _ s
    rw [h2]
    exact wpAny_pure hc
theorem call_maxd {Q : Value → Shared → Prop} {dv : Value} (hh : A.handled = none) (hl : s.heap.IsList l its.toArray) (hi : IntsAre its ns)
    (h1 : 0 < ns.length → ∀ h' tk M t', (∀ b o, s.heap.get? b = some o → h'.get? b = some o) → M ∈ ns → (∀ a, a ∈ ns → a ≤ M) → Q (.int M t') { s with heap := h', toks := tk })
    (h0 : ns = [] → ∀ h' tk, (∀ b o, s.heap.get? b = some o → h'.get? b = some o) → Q dv { s with heap := h', toks := tk }) : wpAny (model P w) A (call (.builtin "max") [.ref l] [("default", dv)]) Q E s := by
  obtain ⟨xs, e⟩ := hi.allInts.items
  have hn : numsOf (intItems xs).toList = ns := by rw [← e]; exact hi.numsOf
  rw [nums_intItems] at hn
  subst hn
  rw [e] at hl
  have nm : (toString "max" ++ toString ".loop" : String) = "max.loop" := by decide
  refine call_tree_kw F.kind_max F.plain_max F.entry_max (args_maxd _ _) ?_
  show wpAny _ A.in1 (Builtin.Builtins.bindParams "max" ["key", "default"] 0 ⟨[], [("default", dv)]⟩ >>= _) _ _ s
  refine wpAny_bind (wpAny_of_eq (show Builtin.Builtins.bindParams "max" ["key", "default"] 0 ⟨[], [("default", dv)]⟩ = pure [none, some dv] from rfl) ?_)
  refine wpAny_bind (wpAny_pure ?_)
  refine wpAny_bind (iter_intList hl fun s2 e2 st hfp hlI => ?_)
  subst e2
  refine wpAny_bind (wpAny_newObj_type ?_)
  rw [nm]
  obtain ⟨st1, st2⟩ := st
  have W := Walks.list (prog := P) (w := w) (A := A.in1) hh s.heap.objs.size l hlI (intItems xs)
  have fr : ∀ b ∈ [s.heap.objs.size, l], b ≠ (s.heap.push { cls := .type "list_iterator", data := .fields #[.ref l, .int 0 0] }).objs.size := fun b hb => Nat.ne_of_lt (hfp b hb)
  have hsz : (intItems xs).size = xs.size := by simp [intItems]
  refine wpAny_pure ⟨plainId_quiet F.plain_max_loop _, mx_first W (fun i j => decide (numAt xs i > numAt xs j)) (CmpOf.ints_gt (numAt xs) (fun _ _ => intItems_at)) _ (fun hm => fr _ hm rfl)
    (W.frame _ _ _ ⟨st1, st2⟩ fun b _ o e => Heap.get?_push_of_some _ e) (Heap.get?_push_size _ rfl) (fun hn v h' tk hP hk => ?_) (fun hn h' tk hk => ?_)⟩
  · obtain ⟨t, rfl⟩ := intItems_at hP
    obtain ⟨k1, k2⟩ := argBest_gt (numAt xs) ((intItems xs).size - 1)
    rw [hsz] at hn k1 k2 ⊢
    refine h1 (by simpa using hn) h' tk _ t (fun b o e => ?_) ?_ fun a ha => ?_
    · have lb := Heap.lt_size e
      refine hk b o (by simp; exact Nat.ne_of_lt lb) (Nat.ne_of_lt ?_) (Heap.get?_push_of_some _ (Heap.get?_push_of_some _ e))
      rw [Heap.size_push]
      exact Nat.lt_succ_of_lt lb
    · rw [numAt_eq]
      exact PySem.getD_mem (by rw [List.length_map, Array.length_toList]; omega)
    · obtain ⟨j, hj, rfl⟩ := mem_getD ha
      rw [List.length_map, Array.length_toList] at hj
      rw [← numAt_eq]
      exact k2 j (by omega)
  · rw [hsz] at hn
    refine h0 (by simp; exact Array.eq_empty_of_size_eq_zero hn) h' tk fun b o e => ?_
    have lb := Heap.lt_size e
    refine hk b o (by simp; exact Nat.ne_of_lt lb) (Nat.ne_of_lt ?_) (Heap.get?_push_of_some _ (Heap.get?_push_of_some _ e))
    rw [Heap.size_push]
    exact Nat.lt_succ_of_lt lb
end
end Py

set_option Elab.async false
set_option linter.all false
set_option maxRecDepth 100000
set_option maxHeartbeats 4000000
/-! Own layer: built-ins over lists; list(range), pop(i), index. -/
namespace Py
open PySem PySem.Spec PyProof.Rows L2
def bls? : List D → Option (List Bool)
  | [] => some []
  | .bl b :: ds => (bls? ds).map (b :: ·)
  | _ => none
theorem bls?_ok : ∀ {ds : List D} {bs : List Bool}, bls? ds = some bs → ds = bs.map D.bl
  | [], bs, h => by cases h; rfl
  | .bl i :: ds, bs, h => by
    obtain ⟨ms, h1, h2⟩ := Option.map_eq_some_iff.mp (show (bls? ds).map (i :: ·) = some bs from h)
    subst h2
    rw [bls?_ok h1] <;> rfl
  | .non :: _, _, h => nomatch h
  | .int _ :: _, _, h => nomatch h
  | .str _ :: _, _, h => nomatch h
  | .tup _ :: _, _, h => nomatch h
  | .lst _ :: _, _, h => nomatch h
  | .dic _ _ :: _, _, h => nomatch h
  | .dct _ _ :: _, _, h => nomatch h
  | .ins _ _ _ :: _, _, h => nomatch h
theorem bls?_map : ∀ {bs : List Bool}, bls? (bs.map D.bl) = some bs
  | [] => rfl
  | b :: bs => by
    show (bls? (bs.map D.bl)).map (b :: ·) = _
    rw [bls?_map] <;> rfl
theorem Reps.bls {K : PySem.W.Frag} {G : Hp} : ∀ {vs : List V} {bs : List Bool}, Reps K G vs (bs.map D.bl) → vs = bs.map V.bl
  | _, [], h => by cases h; rfl
  | _, n :: ns, h => by
    cases h with
    | cons h r => cases h; rw [Reps.bls r] <;> rfl
/-- a list of Bools, of ints -/
def onB (g : List Bool → Option D) : List D → Option D
  | [.lst ds] => (bls? ds).bind g
  | _ => none
def onI (g : List Int → Option D) : List D → Option D
  | [.lst ds] => (ints? ds).bind g
  | _ => none
theorem onB_ok {g : List Bool → Option D} {ds : List D} {d : D} (h : onB g ds = some d) : ∃ bs, ds = [.lst (bs.map .bl)] ∧ g bs = some d := by
  unfold onB at h
  split at h
  · obtain ⟨bs, h1, h2⟩ := Option.bind_eq_some_iff.mp h
    exact ⟨bs, by rw [bls?_ok h1], h2⟩
  · cases h
theorem onI_ok {g : List Int → Option D} {ds : List D} {d : D} (h : onI g ds = some d) : ∃ ns, ds = [.lst (ns.map .int)] ∧ g ns = some d := by
  unfold onI at h
  split at h
  · obtain ⟨bs, h1, h2⟩ := Option.bind_eq_some_iff.mp h
    exact ⟨bs, by rw [ints?_ok h1], h2⟩
  · cases h
abbrev allD := onB fun bs => some (.bl (bs.all id))
abbrev anyD := onB fun bs => some (.bl (bs.any id))
abbrev sumD := onI fun ns => some (.int ns.sum)
def mxL : List Int → Int → Int
  | [], m => m
  | x :: xs, m => mxL xs (if m < x then x else m)
theorem mxL_ge : ∀ (ns : List Int) (m : Int), m ≤ mxL ns m ∧ ∀ a ∈ ns, a ≤ mxL ns m
  | [], m => ⟨Int.le_refl _, fun a h => nomatch h⟩
  | x :: xs, m => by
    obtain ⟨h1, h2⟩ := mxL_ge xs (if m < x then x else m)
    show m ≤ mxL xs _ ∧ ∀ a ∈ x :: xs, a ≤ mxL xs _
    refine ⟨?_, fun a ha => ?_⟩
    · split at h1 <;> rename_i c
      · rw [if_pos c]; omega
      · rw [if_neg c]; exact h1
    · rcases List.mem_cons.mp ha with rfl | ha
      · split at h1 <;> rename_i c
        · rw [if_pos c]; exact h1
        · rw [if_neg c]; omega
      · exact h2 a ha
theorem mxL_mem : ∀ (ns : List Int) (m : Int), mxL ns m = m ∨ mxL ns m ∈ ns
  | [], m => .inl rfl
  | x :: xs, m => by
    show mxL xs _ = m ∨ mxL xs _ ∈ x :: xs
    rcases mxL_mem xs (if m < x then x else m) with h | h
    · rw [h]
      split
      · exact .inr (by simp)
      · exact .inl rfl
    · exact .inr (List.mem_cons_of_mem _ h)
def mxN : List Int → Option Int
  | [] => none
  | x :: xs => some (mxL xs x)
theorem mxN_eq {ns : List Int} {m : Int} (h1 : m ∈ ns) (h2 : ∀ a ∈ ns, a ≤ m) : mxN ns = some m := by
  cases ns with
  | nil => cases h1
  | cons x xs =>
    show some (mxL xs x) = some m
    obtain ⟨g1, g2⟩ := mxL_ge xs x
    have g3 : mxL xs x ≤ m := by
      rcases mxL_mem xs x with e | e
      · rw [e]; exact h2 x (by simp)
      · exact h2 _ (by simp [e])
    have g4 : m ≤ mxL xs x := by
      rcases List.mem_cons.mp h1 with e | e
      · rw [e]; exact g1
      · exact g2 m e
    rw [show mxL xs x = m by omega]
abbrev max1D := onI fun ns => (mxN ns).map .int
section
variable {X : Cx}
theorem fl_all : Fl1 X.K (rAll X.K) allD := fun xs ds d H h hd => by
  obtain ⟨bs, rfl, e⟩ := onB_ok hd
  cases e
  obtain ⟨x, rfl, r⟩ := reps1 h
  cases r with
  | lst q r => exact ⟨rfl, fun Q z => ⟨_, bs, rfl, by rw [← r.bls]; exact q, z⟩⟩
theorem fl_any : Fl1 X.K (rAny X.K) anyD := fun xs ds d H h hd => by
  obtain ⟨bs, rfl, e⟩ := onB_ok hd
  cases e
  obtain ⟨x, rfl, r⟩ := reps1 h
  cases r with
  | lst q r => exact ⟨rfl, fun Q z => ⟨_, bs, rfl, by rw [← r.bls]; exact q, z⟩⟩
theorem fl_sum : Fl1 X.K (rSum X.K) sumD := fun xs ds d H h hd => by
  obtain ⟨bs, rfl, e⟩ := onI_ok hd
  cases e
  obtain ⟨x, rfl, r⟩ := reps1 h
  cases r with
  | lst q r => exact ⟨rfl, fun Q z => ⟨_, bs, rfl, by rw [← r.ints]; exact q, z⟩⟩
theorem fl_max1 : Fl1 X.K (rMax X.K) max1D := fun xs ds d H h hd => by
  obtain ⟨ns, rfl, e⟩ := onI_ok hd
  obtain ⟨m, hm, e⟩ := Option.map_eq_some_iff.mp e
  subst e
  obtain ⟨x, rfl, r⟩ := reps1 h
  cases r with
  | lst q r =>
    refine ⟨rfl, fun Q z => ⟨_, ns, rfl, by rw [← r.ints]; exact q, ?_, fun m' h1 h2 => ?_⟩⟩
    · cases ns with
      | nil => cases hm
      | cons _ _ => simp
    · have := mxN_eq h1 h2
      rw [hm] at this
      cases this
      exact z
/-! max(x, default=e) -/
def rMaxd (K : PySem.W.Frag) : List V → List V → Hp → VK → Prop := fun vs zs H Q => ∃ (a : Addr) (ns : List Int) (d : V), vs = [V.ref a] ∧ zs = [d] ∧ SqL K H a (ns.map V.int) ∧ (∀ m, mxN ns = some m → Q (.int m) H) ∧ (ns = [] → Q d H)
theorem cr_maxd (hc : X.calm = true) : CallRK X (.builtin "max") [Str.ofString "default"] (rMaxd X.K) := by
  intro pins s σ H vs zs us ws Q I r rz h
  obtain ⟨a, ns, d, rfl, rfl, hs, q1, q0⟩ := h
  obtain ⟨its, rv, hl, _⟩ := I.list hs
  rw [Vals.ref1 r]
  obtain ⟨u, rfl, ru⟩ := vals1 rz
  exact call_maxd (I.ok.hd hc) hl.isList rv.ints (fun hn h' tk m t' hk h1 h2 => ⟨.int _, H, I.kept hk, ⟨_, rfl⟩, q1 m (mxN_eq h1 h2)⟩) fun hn h' tk hk => ⟨d, H, I.kept hk, ru, q0 hn⟩
variable {Γ : List Sh} {a b e : Expr} {fa fb : En → Option D} {ka kb : Kd} {pos p2 p3 kpos : Pos}
def mxdD (x d : D) : Option D := match x, d with
  | .lst ds, .int i => (ints? ds).map fun ns => .int ((mxN ns).getD i)
  | _, _ => none
theorem s_maxd (hc : X.calm = true) (hm : X.mg "max" = none) (ha : SP X Γ a fa ka) (hb : SP X Γ b fb kb) (hg : Gl X "max" := by rfl) (he : starEach [a] X.env = (false, eval a X.env) :: starEach [] X.env := by rfl)
    (mk : ∀ (ta tb : TE), PE X a ta → PE X b tb → PE X (.Call (.Name "max" p2) [a] [⟨some "default", b, kpos⟩] pos) (tCKw (rMaxd X.K) (tCons ta tNil) (tCons tb tNil)) := by
      intro ta tb pa pb; exact L2.pe_callBK (Py.cr_maxd (by assumption)) (by rfl) (by assumption) (by decide +kernel) (L2.pa_cons pa L2.pa_nil) (L2.pk_cons pb L2.pk_nil)) :
    SP X Γ (.Call (.Name "max" p2) [a] [⟨some "default", b, kpos⟩] pos) (b2 fa fb mxdD) .u := by
  obtain ⟨ta, pa, qa⟩ := ha.ex
  obtain ⟨tb, pb, qb⟩ := hb.ex
  refine ⟨_, mk _ _ pa pb, fun σ H Q env fp Z d E hf hQ => ?_⟩
  obtain ⟨x, y, hx, hy, hd⟩ := bind2 hf
  refine qa σ H _ env fp Z _ E hx fun v H1 s1 h1 => ?_
  refine qb σ H1 _ env fp Z _ (E.same s1) hy fun w H2 s2 h2 => ?_
  cases x with
  | lst ds =>
    cases y with
    | int i =>
      obtain ⟨ns, hn, ed⟩ := Option.map_eq_some_iff.mp (show (ints? ds).map _ = some d from hd)
      subst ed
      have e1 := ints?_ok hn
      subst e1
      obtain ⟨p, us, rfl, l1, r1⟩ := (h1.more s2).lst
      have e2 := r1.ints
      subst e2
      cases h2.rep
      refine ⟨p, ns, _, rfl, rfl, l1, fun m hm => ?_, fun hm => ?_⟩
      · rw [hm] at hQ
        exact hQ _ H2 (s1.trans s2) (.int m)
      · subst hm
        exact hQ _ H2 (s1.trans s2) (.int i)
    | _ => cases hd
  | _ => cases y <;> cases hd
/-! list(range(n)), list(range(m, n)) -/
def lr1 : List D → Option D
  | [.int j] => if j.natAbs ≤ 16777216 then some (.lst (rngL 0 j.toNat)) else none
  | _ => none
theorem rgV_reps {K : PySem.W.Frag} {G : Hp} {i j : Int} : Reps K G (rgV i j) (rngL i (j - i).toNat) := by
  unfold rgV rngL
  generalize (List.range (j - i).toNat) = l
  induction l with
  | nil => exact .nil
  | cons x l ih => exact .cons (.int _) ih
theorem s_listRg (hc : X.calm = true) (hm : X.mg "list" = none) (hm2 : X.mg "range" = none) (ha : SP X Γ a fa ka) (hg : Gl X "list" := by rfl) (hg2 : Gl X "range" := by rfl) (he : starEach [a] X.env = (false, eval a X.env) :: starEach [] X.env := by rfl)
    (he2 : starEach [.Call (.Name "range" p2) [a] [] p3] X.env = (false, eval (.Call (.Name "range" p2) [a] [] p3) X.env) :: starEach [] X.env := by rfl) {p4 : Pos} :
    SP X Γ (.Call (.Name "list" p4) [.Call (.Name "range" p2) [a] [] p3] [] pos) (bA (Py.a1 fa a0) lr1) (.nw (.li .fz)) := by
  obtain ⟨ta, pa, qa⟩ := ha.ex
  refine ⟨_, pe_listRg hc hg hm (prg_1 hg2 hm2 pa he) he2, fun σ H Q env fp Z d E hf hQ => ?_⟩
  obtain ⟨xs, hx, hd⟩ := Option.bind_eq_some_iff.mp hf
  obtain ⟨y, hy, hx⟩ := Option.bind_eq_some_iff.mp hx
  cases hx
  refine qa σ H _ env fp Z y E hy fun v H1 s1 h1 => ?_
  cases y with
  | int j =>
    simp only [lr1] at hd
    split at hd
    · rename_i c
      cases hd
      cases h1.rep
      refine ⟨j, rfl, ⟨by omega, by omega, by omega, by omega, by omega⟩, fun q hq => hQ _ _ (s1.trans (Sub.upd hq)) (new_list (c := true) E s1 hq ?_)⟩
      have z : Reps X.K (gG true fp Z H1) (rgV 0 j) (rngL 0 (j - 0).toNat) := rgV_reps
      rw [Int.sub_zero] at z
      exact z
    · cases hd
  | _ => cases hd
/-! x.index(y), flat -/
def idx? (y : D) : List D → Option Nat
  | [] => none
  | d :: ds => if PyData.eqv d.py y.py = true then some 0 else (idx? y ds).map (· + 1)
theorem idx?_ok {y : D} : ∀ {ds : List D} {j : Nat}, idx? y ds = some j → (∃ d, ds[j]? = some d ∧ PyData.eqv d.py y.py = true) ∧ ∀ m d, m < j → ds[m]? = some d → PyData.eqv d.py y.py = false
  | [], j, h => by cases h
  | d :: ds, j, h => by
    unfold idx? at h
    split at h
    · rename_i c; cases h; exact ⟨⟨d, rfl, c⟩, fun m d h => by omega⟩
    · rename_i c
      obtain ⟨k, hk, e⟩ := Option.map_eq_some_iff.mp h
      subst e
      obtain ⟨⟨d2, h1, h2⟩, h3⟩ := idx?_ok hk
      refine ⟨⟨d2, by simpa using h1, h2⟩, fun m d3 hm hd => ?_⟩
      cases m with
      | zero => cases hd; simpa using c
      | succ m => exact h3 m d3 (by omega) (by simpa using hd)
def ixfD (x y : D) : Option D := match x with
  | .lst ds => if (y.flat && ds.all D.flat) = true then (idx? y ds).map fun j => .int (j : Nat) else none
  | _ => none
theorem s_index {apos cpos : Pos} (ha : SP X Γ a fa ka) (hb : SP X Γ b fb kb) (he : starEach [b] X.env = (false, eval b X.env) :: starEach [] X.env := by rfl)
    (mk : ∀ (to : TE) (t : TA), PE X a to → PA X [b] t → PE X (.Call (.Attribute a "index" apos) [b] [] cpos) (tBM X.K "list" (rIndex X.K) to t) := by intro to t ho ha; exact L2.pe_bm PySem.F.plainAttrs_list PySem.F.slot_list_index PySem.F.type_list_index L2.mt_index ho ha) :
    SP X Γ (.Call (.Attribute a "index" apos) [b] [] cpos) (b2 fa fb ixfD) .u := by
  obtain ⟨ta, pa, qa⟩ := ha.ex
  obtain ⟨tb, pb, qb⟩ := hb.ex
  refine ⟨_, mk _ _ pa (pa_cons pb pa_nil he), fun σ H Q env fp Z d E hf hQ => ?_⟩
  obtain ⟨x, y, hx, hy, hd⟩ := bind2 hf
  cases x with
  | lst ds =>
    simp only [ixfD] at hd
    split at hd
    · rename_i c
      obtain ⟨c1, c2⟩ := Bool.and_eq_true_iff.mp c
      obtain ⟨j, hj, ed⟩ := Option.map_eq_some_iff.mp hd
      subst ed
      refine qa σ H _ env fp Z _ E hx fun v H1 s1 h1 => ?_
      obtain ⟨p, us, rfl, l1, r1⟩ := h1.lst
      refine ⟨.inl ⟨rfl, us, l1⟩, qb σ H1 _ env fp Z _ (E.same s1) hy fun w H2 s2 h2 => ?_⟩
      have e1 := (r1.mono (Kd.G_sub)).vs c2
      have e2 : w = y.v := by
        have := h2.rep
        cases y <;> first | (cases c1; done) | (cases this; rfl)
      obtain ⟨⟨d2, k1, k2⟩, k3⟩ := idx?_ok hj
      have fl : ∀ {m : Nat} {d : D}, ds[m]? = some d → d.flat = true := fun h => List.all_eq_true.mp c2 _ (List.mem_of_getElem? h)
      subst e1 e2
      refine ⟨p, _, _, j, d2.v, rfl, rfl, s2.sqL l1, flat_v c1, flats_v c2, by rw [List.getElem?_map, k1] <;> rfl, by rw [eqV_py (fl k1) c1]; exact k2, fun m z hm hz => ?_, hQ _ H2 (s1.trans s2) (.int _)⟩
      rw [List.getElem?_map] at hz
      obtain ⟨d3, h3, rfl⟩ := Option.map_eq_some_iff.mp hz
      rw [eqV_py (fl h3) c1]
      exact k3 m d3 hm h3
    · cases hd
  | _ => cases hd
end
/-! x.pop(i) -/
section
variable {X : Cx} {xc : Nat → Addr} {W : WX} {np : Nat} {Γ : List Sh} {rk : Kd} {b : Expr} {fb : En → Option D} {kb : Kd} {p2 p3 p4 : Pos}
def popI (i : Nat) (fb : En → Option D) : IE := fun env => match env[i]? with
  | some (some (.lst xs)) => (fb env).bind fun j => match j with
    | .int k => if k.natAbs < 4611686018427387904 then (ixN xs.length k).bind fun n => (xs[n]?).map fun d => (.ok d, env.set i (some (.lst (xs.eraseIdx n)))) else none
    | _ => none
  | _ => none
theorem si_popI (i : Nat) {x : Str} (hi : SP X Γ b fb kb) (hN : X.N[i]? = some x := by rfl) (hv : Vis X.env.scope x := by first | exact Or.inl rfl | exact Or.inr (Or.inl rfl) | exact Or.inr (Or.inr rfl)) (hs : Γ[i]? = some (.li .fz) := by rfl) (hd : (x == ("__debug__" : Str)) = false := by decide) (hcd : (x == ("__classdict__" : Str)) = false := by decide) (he : starEach [b] X.env = (false, eval b X.env) :: starEach [] X.env := by rfl)
    (mk : ∀ (to : TE) (t : TA), PE X (.Name x p2) to → PA X [b] t → PE X (.Call (.Attribute (.Name x p2) "pop" p3) [b] [] p4) (tBM X.K "list" rPopAt to t) := by intro to t ho ha; exact L2.pe_bm PySem.F.plainAttrs_list PySem.F.slot_list_pop PySem.F.type_list_pop L2.mt_popAt ho ha) :
    SI X xc W Γ (.Call (.Attribute (.Name x p2) "pop" p3) [b] [] p4) (popI i fb) .u := by
  obtain ⟨tb, pb, qb⟩ := hi.ex
  refine ⟨_, mk _ _ (pe_var hN hv hd hcd) (pa_cons pb pa_nil he), fun σ H Q env fp Z r env' E hf hQ => ?_⟩
  unfold popI at hf
  split at hf
  · rename_i xs hx
    obtain ⟨j, hj, hf⟩ := Option.bind_eq_some_iff.mp hf
    cases j with
    | int k =>
      have c : k.natAbs < 4611686018427387904 := by
        by_cases c : k.natAbs < 4611686018427387904
        · exact c
        · have hf2 : (if k.natAbs < 4611686018427387904 then (ixN xs.length k).bind fun n => (xs[n]?).map fun d => (Rs.ok d, env.set i (some (.lst (xs.eraseIdx n)))) else none) = some (r, env') := hf
          rw [if_neg c] at hf2
          cases hf2
      have hf2 : (if k.natAbs < 4611686018427387904 then (ixN xs.length k).bind fun n => (xs[n]?).map fun d => (Rs.ok d, env.set i (some (.lst (xs.eraseIdx n)))) else none) = some (r, env') := hf
      rw [if_pos c] at hf2
      obtain ⟨n, hn, hf⟩ := Option.bind_eq_some_iff.mp hf2
      obtain ⟨d, hd', z⟩ := Option.map_eq_some_iff.mp hf
      cases z
      obtain ⟨a0, vs0, hσ0, ha0, r0, _⟩ := E.lset hs hx
      refine ⟨_, hσ0, .inl ⟨rfl, vs0, .inl (.inl ha0)⟩, qb σ H _ env fp Z _ E hj fun w H1 s1 h1 => ?_⟩
      have E1 := E.same s1
      obtain ⟨a, vs, hσ, ha, r, ia, cont⟩ := E1.lset hs hx
      rw [hσ0] at hσ; cases hσ
      cases h1.rep
      obtain ⟨y, hy, ry⟩ := r.get hd'
      obtain ⟨fp', E2, x2, hm⟩ := cont (vs.eraseIdx n) (xs.eraseIdx n) (r.eraseIdx n)
      obtain ⟨q1, q2, q3, q4⟩ := ixN_seq hn
      exact ⟨_, vs, k, n, y, rfl, rfl, ha, by omega, by omega, by rw [r.length]; exact q1, hy, hQ _ fp' E2 ((Ext.same s1).trans x2) y (Rep.mono x2.hid ry)⟩
    | _ => cases hf
  · cases hf
end
theorem adD_i {i j : Int} : adD (.int i) (.int j) = some (.int (i + j)) := rfl
end Py

set_option Elab.async false
set_option linter.all false
set_option maxRecDepth 100000
set_option maxHeartbeats 4000000
/-! Own layer: list comprehensions whose elements have effects. -/
namespace Py
open PySem PySem.Spec PyProof.Rows L2
theorem TrE.unw {K : PySem.W.Frag} {H G : Hp} : ∀ {Γ : List Sh} {env : En} {σ σ' : L2.St} {fp : List Addr}, TrE K H G Γ env σ fp → σ'.length = σ.length → (∀ i : Nat, env[i]? = some none ∨ σ'[i]? = σ[i]?) → TrE K H G Γ env σ' fp
  | _, _, _, [], _, .nil, _, _ => .nil
  | _, _, _, _ :: _, _, .nil, h, _ => by cases h
  | _, _, _, [], _, .skip _, h, _ => by cases h
  | _, _, _, y :: σ', _, .skip t, hl, h => .skip (TrE.unw t (by simpa using hl) fun i => by simpa using h (i + 1))
  | _, _, _, [], _, .has _ _, h, _ => by cases h
  | _, _, _, y :: σ', _, .has tr t, hl, h => by
    have h0 := h 0
    simp at h0
    subst h0
    exact .has tr (TrE.unw t (by simpa using hl) fun i => by simpa using h (i + 1))
theorem wipe_ne {i : Nat} : ∀ {own : List Nat} {σ : L2.St}, i ∉ own → (L2.wipe σ own)[i]? = σ[i]?
  | [], _, _ => rfl
  | j :: own, σ, h => by
    show ((L2.wipe σ own).set j none)[i]? = _
    rw [List.getElem?_set_ne (fun e => h (by rw [e]; simp)), wipe_ne fun z => h (by simp [z])]
theorem wipeE_len : ∀ {own : List Nat} {e : En}, (wipeE own e).length = e.length
  | [], _ => rfl
  | i :: own, e => by
    show ((wipeE own e).set i none).length = _
    rw [List.length_set, wipeE_len]
theorem wipeE_in {i : Nat} : ∀ {own : List Nat} {e : En}, i ∈ own → i < e.length → (wipeE own e)[i]? = some none
  | j :: own, e, h, hl => by
    show ((wipeE own e).set j none)[i]? = _
    by_cases q : j = i
    · subst q
      exact List.getElem?_set_self (by rw [wipeE_len]; exact hl)
    · rw [List.getElem?_set_ne q]
      exact wipeE_in ((List.mem_cons.mp h).resolve_left fun z => q z.symm) hl
theorem TrE.len2 {K : PySem.W.Frag} {H G : Hp} {Γ : List Sh} {env : En} {σ : L2.St} {fp : List Addr} (t : TrE K H G Γ env σ fp) : σ.length = env.length := by
  have a := t.lens
  omega
/-- behind a turn: the block's names forgotten, the frame as it was -/
theorem EOk.unw {K : PySem.W.Frag} {Γ : List Sh} {env : En} {σ σ2 : L2.St} {H : Hp} {fp Z : List Addr} {own : List Nat} (E : EOk K Γ env σ2 H fp Z) (hΓ : ∀ i ∈ own, ∃ s, Γ[i]? = some s) (hw : L2.wipe σ2 own = L2.wipe σ own) : EOk K Γ (wipeE own env) σ H fp Z := by
  have E1 := E.wipe hΓ
  rw [hw] at E1
  obtain ⟨⟨fq, t, n, s⟩, dj, ok⟩ := E1
  refine ⟨⟨fq, t.unw (L2.wipe_length σ own).symm fun i => ?_, n, s⟩, dj, ok⟩
  by_cases h : i ∈ own
  · by_cases hl : i < env.length
    · exact .inl (wipeE_in h hl)
    · have l1 := t.len2
      rw [wipeE_len, L2.wipe_length] at l1
      exact .inr (by rw [List.getElem?_eq_none (by omega), List.getElem?_eq_none (by rw [L2.wipe_length]; omega)])
  · exact .inr (wipe_ne h).symm
theorem Ext.updF {H H' : Hp} {f f' : List Addr} {D : Addr} {o : HO} (e : Ext H f H' f') (hD : H D = none) : Ext H f (upd H' D o) f' := ⟨fun b u h n => by
    have q : b ≠ D := fun z => by subst z; rw [hD] at h; cases h
    rw [upd_ne q]; exact e.keep b u h n, e.own, fun b hb n => by
    by_cases q : b = D
    · subst q; rw [upd_same]; simp
    · rw [upd_ne q]; exact e.there b hb n⟩
def lcIL (own : List Nat) (as : D → En → Option En) (fe : IE) : En → List D → Option (List D × En)
  | env, [] => some ([], env)
  | env, d :: ds => (as d (wipeE own env)).bind fun e1 => match fe e1 with
    | some (.ok y, e2) => (lcIL own as fe (wipeE own e2) ds).map fun r => (y :: r.1, r.2)
    | _ => none
def lcI (own : List Nat) (it : En → Option (List D)) (as : D → En → Option En) (fe : IE) : IE := fun env => (it env).bind fun xs => (lcIL own as fe env xs).bind fun r => (lstD r.1).map fun v => (.ok v, r.2)
section
variable {X : Cx} {xc xc2 : Nat → Addr} {W : WX} {Γ : List Sh} {tg iter elt : Expr} {scope : Scope} {own : List (Str × Nat)} {pos : Pos} {it : En → Option (List D)} {as : D → En → Option En} {fe : IE} {ke : Kd} {ix : List Nat}
theorem si_lc (hi : SPI X Γ tg iter it false) (ok : BlkOk X.N X.env.scope scope own) (hg : BlkA X scope fun X => SG X 0 Γ tg as ix) (he : BlkA X scope fun X => SI X xc2 (fun _ _ _ _ => False) Γ elt fe ke) (hN : X.N.Nodup) (hix : ∀ i ∈ ix, i ∈ own.map (·.2) := by decide) (hΓ : ∀ i ∈ own.map (·.2), ∃ s, Γ[i]? = some s) (ck : ke.cu = true := by rfl) (hc : X.calm = true := by rfl) (hs : ∀ x, foldedSetIterable iter X.env x = pure x := by intro _; rfl) :
    SI X xc W Γ (.ListComp elt [⟨tg, iter, [], 0⟩] scope pos) (lcI (own.map (·.2)) it as fe) (.nw (.li .fz)) := by
  obtain ⟨wi, pi, qi⟩ := hi.ex
  refine ⟨_, pe_lc (g := tgcan X.K Γ as ix) (tt := ttcan X.K Γ tyes) (te := tecan X.K xc2 (fun _ _ _ _ => False) Γ fe ke) hc hN pi ok (fun s H C cl fp => (hg s H C cl fp).can) (fun s H C cl fp => (stl_nil (X := X.blk s H scope (compEnvC scope cl C X.env) fp)).can) (fun s H C cl fp => (he s H C cl fp).can) hs, fun σ H Q env fp Z r env' E hf hQ => ?_⟩
  obtain ⟨xs, hx, hf⟩ := Option.bind_eq_some_iff.mp hf
  obtain ⟨⟨ys, envF⟩, hy, hf⟩ := Option.bind_eq_some_iff.mp hf
  obtain ⟨v0, hv0, z⟩ := Option.map_eq_some_iff.mp hf
  cases z
  unfold lstD at hv0
  split at hv0
  · rename_i hlen
    cases hv0
    have hlen : ys.length ≤ sizeLine := hlen
    refine qi σ H _ env fp Z xs E hx fun J H1 G1 G0 s1 src sG1 sG0 hG D hD => ?_
    have hG := hG rfl
    subst hG
    have E1 := E.same s1
    have hDO := E1.fresh hD
    have hD0 : H D = none := by
      cases q : H D with
      | none => rfl
      | some o => rw [s1 D o q] at hD; cases hD
    have nG : ∀ b o, G1 b = some o → b ≠ D := fun b o h z => by subst z; have := sG1 b o h; rw [hD] at this; cases this
    refine ⟨fun i m H' => m = xs.length - i ∧ i ≤ xs.length ∧ ∃ e1 f1 vs acc rest, H' D = some (.lst vs) ∧ Reps X.K (hid (f1 ++ (D :: Z)) H') vs acc ∧ EOk X.K Γ e1 σ H' f1 (D :: Z) ∧ Ext H fp H' f1 ∧ Sub G1 (hid (f1 ++ (D :: Z)) H') ∧ lcIL (own.map (·.2)) as fe e1 (xs.drop i) = some (rest, envF) ∧ acc ++ rest = ys,
      ⟨xs.length, rfl, Nat.zero_le _, env, fp, [], [], ys, upd_same, .nil, ?_, (Ext.same s1).updF hD0, ?_, by rw [List.drop_zero]; exact hy, rfl⟩, ?_⟩
    · exact E1.hide (Y := [D]) (H' := upd H1 D (.lst [])) (Sub.upd hD) fun b hb => by
        have e : b = D := by simpa using hb
        subst e
        exact ⟨hD, _, upd_same, nt_lst _⟩
    · intro b o h
      have nd := nG b o h
      obtain ⟨h1, h2⟩ := hid_some (sG0 b o h)
      rw [hid_of, upd_ne nd]
      · exact h2
      · intro z
        rcases List.mem_append.mp z with z | z
        · exact h1 (List.mem_append_left _ z)
        · rcases List.mem_cons.mp z with z | z
          · exact nd z
          · exact h1 (List.mem_append_right _ z)
    · rintro i m H' ⟨rfl, hi, e1, f1, vs, acc, rest, hDv, hr, E2, x2, sg, hl, ha⟩
      by_cases hlt : i < xs.length
      · have hd : xs.drop i = xs[i] :: xs.drop (i + 1) := List.drop_eq_getElem_cons hlt
        rw [hd] at hl
        obtain ⟨e2, he2, hl⟩ := Option.bind_eq_some_iff.mp (show (as xs[i] (wipeE (own.map (·.2)) e1)).bind _ = some (rest, envF) from hl)
        split at hl
        · rename_i y e3 hfe
          obtain ⟨⟨rs, eF⟩, hrs, e⟩ := Option.map_eq_some_iff.mp hl
          obtain ⟨er, eE⟩ := Prod.mk.inj e
          subst eE
          have hdi : xs[i]? = some xs[i] := List.getElem?_eq_getElem hlt
          obtain ⟨j1, y1⟩ := src.go i H' (f1 ++ (D :: Z)) (sg.trans hid_sub) sg (fun b hb => let ⟨o, h, _⟩ := E2.ok b hb; ⟨o, h⟩) _ hdi
          refine .inr ⟨j1, fun H'' => ∃ e1 f1 vs acc rest, H'' D = some (.lst vs) ∧ Reps X.K (hid (f1 ++ (D :: Z)) H'') vs acc ∧ EOk X.K Γ e1 σ H'' f1 (D :: Z) ∧ Ext H fp H'' f1 ∧ Sub G1 (hid (f1 ++ (D :: Z)) H'') ∧ lcIL (own.map (·.2)) as fe e1 (xs.drop (i + 1)) = some (rest, eF) ∧ acc ++ rest = ys,
            fun H'' ⟨e1, f1, v1, a1, r1, z⟩ => ⟨xs.length - (i + 1), by omega, rfl, hlt, e1, f1, v1, a1, r1, z⟩, fun x H2 hyl => ?_⟩
          obtain ⟨s2, rx⟩ := y1 x H2 hyl
          have E3 := E2.same s2
          have E4 := E3.wipe (own := own.map (·.2)) hΓ
          refine ⟨_, _, f1, D :: Z, e2, E4, rx, he2, fun σ2 E5 w2 => ⟨?_, e2, f1, D :: Z, true, E5, rfl, fun H3 s3 => ?_⟩⟩
          · have := w2 (own.map (·.2)) hix
            rw [this]
            have ww : ∀ (l : List Nat) (σ : L2.St), L2.wipe (L2.wipe σ l) l = L2.wipe σ l := fun l => by
              have : ∀ (l m : List Nat) (σ : L2.St), (∀ i ∈ m, i ∈ l) → L2.wipe (L2.wipe σ m) l = L2.wipe σ l := fun l m => by
                induction m with
                | nil => intro σ _; rfl
                | cons v m ih =>
                  intro σ h
                  show L2.wipe ((L2.wipe σ m).set v none) l = _
                  rw [wipe_set (h v (by simp)), ih σ fun i hi => h i (by simp [hi])]
              exact fun σ => this l l σ fun _ h => h
            exact ww _ _
          · refine iteT ?_
            have hw2 : L2.wipe σ2 (own.map (·.2)) = L2.wipe σ (own.map (·.2)) := by
              have := w2 (own.map (·.2)) hix
              rw [this]
              have : ∀ (l m : List Nat) (σ : L2.St), (∀ i ∈ m, i ∈ l) → L2.wipe (L2.wipe σ m) l = L2.wipe σ l := fun l m => by
                induction m with
                | nil => intro σ _; rfl
                | cons v m ih =>
                  intro σ h
                  show L2.wipe ((L2.wipe σ m).set v none) l = _
                  rw [wipe_set (h v (by simp)), ih σ fun i hi => h i (by simp [hi])]
              exact this _ _ σ fun _ h => h
            have E6 := E5.same s3
            refine ⟨e2, f1, D :: Z, .ok y, e3, E6, hfe, fun H4 f4 E7 x7 v hv => ?_⟩
            have s23 := s2.trans s3
            have dD : H3 D = some (.lst vs) := s23 D _ hDv
            have dF : D ∉ f1 := fun z => E6.dj D z (by simp)
            have d4 : H4 D = some (.lst vs) := x7.keep D _ dD dF
            have la : acc.length + 1 + rs.length = ys.length := by
              rw [← ha, ← er]
              simp
              omega
            refine ⟨vs, d4, by rw [hr.length]; omega, wipeE (own.map (·.2)) e3, f4, vs ++ [v], acc ++ [y], rs, upd_same, ?_, (E7.unw hΓ hw2).hset (by simp) (nt_lst _), ((x2.trans (Ext.same s23)).trans x7).updF hD0, ?_, hrs, by rw [List.append_assoc, ← ha, ← er]; rfl⟩
            · rw [hid_updin (by simp)]
              exact (hr.mono ((hid_mono s23).trans x7.hid)).append (.cons (hv.toU ck) .nil)
            · rw [hid_updin (by simp)]
              exact (sg.trans (hid_mono s23)).trans x7.hid
        · cases hl
      · have e : i = xs.length := by omega
        subst e
        rw [List.drop_length] at hl
        cases hl
        rw [List.append_nil] at ha
        subst ha
        refine .inl ⟨src.stop H' (sg.trans hid_sub), hQ H' f1 (E2.un (Y := [D])) x2 _ ⟨[D], fun b hb => ?_, by simp, .li (fp := []) hDv (Trs.ofFz (hr.mono (hid_less fun b hb => ?_))), E2⟩⟩
        · have e : b = D := by simpa using hb
          subst e
          refine ⟨.inr hD0, fun z => ?_⟩
          rcases List.mem_append.mp z with z | z
          · exact E2.dj b z (by simp)
          · exact hDO (List.mem_append_right _ z)
        · rcases List.mem_append.mp hb with z | z
          · exact List.mem_append_right _ (by have e : b = D := by simpa using z
                                              subst e; simp)
          · rcases List.mem_append.mp z with z | z
            · exact List.mem_append_left _ z
            · exact List.mem_append_right _ (by simp [z])
  · cases hv0
end
end Py

set_option Elab.async false
set_option linter.all false
set_option maxRecDepth 100000
set_option maxHeartbeats 4000000
/-! Own layer: zip(text, tuple); tuple of a list with effects. -/
namespace Py
open PySem PySem.Spec PyProof.Rows L2
abbrev SgAt (x : Str) (i : Nat) (v : Value) : Prop := ∃ c u, x.cps[i]? = some c ∧ v = .str ⟨#[c]⟩ u
theorem draws_str {prog : Program} {w : World} {A : Around} (hh : A.handled = none) (it : Addr) (x : Str) (t : Tok) : Draws prog w A it [it] x.cps.size (SgAt x) (fun i h => h.IsStrIter it (strIterType x) x t i) := by
  unfold strIterType
  split
  · exact Draws.strAscii hh it x t
  · exact Draws.strWide hh it x t
/-- a text and the tuple at b, two by two -/
def ItzS (K : PySem.W.Frag) (x : Str) (b : Addr) : It :=
  ⟨fun i H => ∃ (ys : List V) (y : V), SqT K H b ys ∧ i < x.cps.size ∧ ys[i]? = some y,
    fun i H v H' => ∃ T c y, v = .ref T ∧ H T = none ∧ H' = upd H T (.tup [.str ⟨#[c]⟩, y]) ∧ x.cps[i]? = some c ∧ ∀ ys, SqT K H b ys → ys[i]? = some y,
    fun i H => ∃ ys : List V, SqT K H b ys ∧ i ≤ x.cps.size ∧ i ≤ ys.length ∧ (i = x.cps.size ∨ i = ys.length)⟩
theorem isTI {h : Heap} {i2 b : Addr} {i : Nat} (x : h.IsTupleIter i2 b i) : ∃ o, h.get? i2 = some o ∧ ∀ v, o.data ≠ .cell v := by
  obtain ⟨o, e, _, d⟩ := x
  exact ⟨o, e, fun v q => by rw [d] at q; cases q⟩
theorem isSI {h : Heap} {i1 : Addr} {ty : String} {x : Str} {t : Tok} {i : Nat} (y : h.IsStrIter i1 ty x t i) : ∃ o, h.get? i1 = some o ∧ ∀ v, o.data ≠ .cell v := by
  obtain ⟨o, e, _, d⟩ := y
  exact ⟨o, e, fun v q => by rw [d] at q; cases q⟩
theorem turn_zipS {P : Program} {w : World} {K : PySem.W.Frag} {elts : List Expr} {kk : Nat} {tpos : Pos} {b z TI TO i1 i2 : Addr} {x : Str} {t : Tok} (S : ZipSep2 z TI TO i1 i2 [i1] [i2, b]) :
    Turn P w K (.Tuple elts kk tpos) (ItzS K x b) [z, TI, TO, i1, i2] z (fun i h => IsZip h z TI TO .none ∧ IsTupOf2 h TI (.ref i1) (.ref i2) ∧ (∃ x y, IsTupOf2 h TO x y) ∧ h.IsStrIter i1 (strIterType x) x t i ∧ h.IsTupleIter i2 b i) where
  mem := by simp
  obj := fun i h st c hc => by
    obtain ⟨hz, hTI, ⟨x, y, hTO⟩, h1, h2⟩ := st
    have e' : c = z ∨ c = TI ∨ c = TO ∨ c = i1 ∨ c = i2 := by simpa using hc
    rcases e' with q | q | q | q | q
    · rw [q]; exact ⟨_, hz, fun v q => nomatch q⟩
    · rw [q]; exact ⟨_, hTI, fun v q => nomatch q⟩
    · rw [q]; exact ⟨_, hTO, fun v q => nomatch q⟩
    · rw [q]; exact isSI h1
    · rw [q]; exact isTI h2
  keep := fun i h h' st k => by
    obtain ⟨hz, hTI, ⟨x, y, hTO⟩, ⟨o1, e1, r1⟩, h2⟩ := st
    exact ⟨k z (by simp) _ hz, k TI (by simp) _ hTI, ⟨x, y, k TO (by simp) _ hTO⟩, ⟨o1, k i1 (by simp) _ e1, r1⟩, h2.at fun o q => k i2 (by simp) o q⟩
  item := by
    intro X hP hw hK hc i pins s σ H E I hf st hg
    subst hP hw hK
    obtain ⟨hz, hTI, ⟨x0, y0, hTO⟩, h1, h2⟩ := st
    obtain ⟨ys, y, hqy, hx, hy⟩ := hg
    obtain ⟨its2, rv2, p2, _⟩ := I.tuple hqy
    obtain ⟨u2, hu2, ru2⟩ := rv2.get hy
    have hzl : z < s.heap.objs.size := Heap.lt_size hz
    have hh : X.A.in1.handled = none := I.ok.hd hc
    have bi : b ≠ i2 := fun q => by
      obtain ⟨o1, e1, c1, _⟩ := h2
      obtain ⟨o2, e2, c2, _⟩ := p2
      subst q
      rw [e1] at e2
      cases e2
      rw [c1] at c2
      exact absurd (Value.type.inj c2) (by decide)
    refine wpAny_pyNext_zipD2_item (P1 := SgAt x) (P2 := fun i v => its2.toArray[i]? = some v) (St1 := fun i h => h.IsStrIter i1 (strIterType x) x t i) (St2 := fun i h => h.IsTupleIter i2 b i ∧ h.IsTuple b its2.toArray) S (draws_str hh i1 x t) (Draws.tuple hh i2 b bi its2.toArray) hz hTI hTO h1 ⟨h2, p2⟩ hx (by simpa using (List.getElem?_eq_some_iff.mp hu2).1) fun x1 x2 h' tk k1 k2 z' TO' s1' s2' hT hsz hk => ?_
    obtain ⟨c, tc, hc1, rfl⟩ := k1
    have e2 : x2 = u2 := by
      have q : its2.toArray[i]? = some u2 := by simpa using hu2
      rw [q] at k2
      cases k2
      rfl
    subst e2
    refine ⟨_, rfl, wpAny_letOwnedTupleGo_zip (s := { s with heap := h', toks := tk }) z' fun h2' z2 sb => ?_⟩
    have hT2 : h2'.get? s.heap.objs.size = some { cls := .type "tuple", data := .seq #[.str ⟨#[c]⟩ tc, x2] } := (sb.2 _ (Nat.ne_of_gt hzl)).trans hT
    have new : ObjOk X.prog X.w (upd H s.heap.objs.size (.tup [.str ⟨#[c]⟩, y])) h2' s.heap.objs.size (.tup [.str ⟨#[c]⟩, y]) :=
      ⟨by show 2 ≤ sizeLine; decide, [.str ⟨#[c]⟩ tc, x2], .cons ⟨tc, rfl⟩ (.cons ru2 .nil), ⟨_, hT2, rfl, _, rfl⟩⟩
    have I1 : Inv X pins σ (upd H s.heap.objs.size (.tup [.str ⟨#[c]⟩, y])) { s with heap := h2', toks := tk } :=
      I.turnedNew (t' := tk) (ch := [z, TI, TO, i1, i2]) (fun c o hb q => (sb.2 c (fun q' => hb (by simp [q']))).trans (hk c o (fun q' => hb (by simp [q'])) (fun q' => hb (by simp [q'])) (fun q' => hb (by simp [q'])) (fun q' => hb (by simp [q'])) q)) hf (Nat.le_refl _) new
    have up : ∀ d o, d ≠ z → h'.get? d = some o → h2'.get? d = some o := fun d o n e => (sb.2 d n).trans e
    refine ⟨.ref s.heap.objs.size, _, I1, rfl, ⟨_, c, y, rfl, I.hok.fresh (Nat.le_refl _), rfl, hc1, fun l hl => by rw [I.tuple_inj hl hqy]; exact hy⟩, ⟨z2, ?_, ⟨.str ⟨#[c]⟩ tc, x2, ?_⟩, ?_, ?_⟩, fun d hcm => ?_⟩
    · exact up _ _ S.TIz (hk _ _ S.TIz S.TITO S.TIi1 S.TIi2 hTI)
    · exact up _ _ S.TOz TO'
    · obtain ⟨o1, e1, r1⟩ := s1'
      exact ⟨o1, up _ _ (Ne.symm S.zi1) e1, r1⟩
    · exact s2'.1.at fun o q => up _ _ (Ne.symm S.zi2) q
    · have hlt : d < s.heap.objs.size := by
        have e' : d = z ∨ d = TI ∨ d = TO ∨ d = i1 ∨ d = i2 := by simpa using hcm
        rcases e' with q | q | q | q | q
        · rw [q]; exact hzl
        · rw [q]; exact Heap.lt_size hTI
        · rw [q]; exact Heap.lt_size hTO
        · rw [q]; obtain ⟨_, e1, _⟩ := h1; exact Heap.lt_size e1
        · rw [q]; obtain ⟨_, e2, _⟩ := h2; exact Heap.lt_size e2
      rw [upd_ne (Nat.ne_of_lt hlt)]
      exact (hf d hcm).1
  done := by
    intro X hP hw hK hc i pins s σ H E I hf st hg
    subst hP hw hK
    obtain ⟨hz, hTI, ⟨x0, y0, hTO⟩, h1, h2⟩ := st
    obtain ⟨ys, hqy, l1, l2, hend⟩ := hg
    obtain ⟨its2, rv2, p2, _⟩ := I.tuple hqy
    have hh : X.A.in1.handled = none := I.ok.hd hc
    have ll := rv2.length
    have bi : b ≠ i2 := fun q => by
      obtain ⟨o1, e1, c1, _⟩ := h2
      obtain ⟨o2, e2, c2, _⟩ := p2
      subst q
      rw [e1] at e2
      cases e2
      rw [c1] at c2
      exact absurd (Value.type.inj c2) (by decide)
    refine wpAny_pyNext_zipD2_end (n1 := x.cps.size) (n2 := its2.toArray.size) (P1 := SgAt x) (P2 := fun i v => its2.toArray[i]? = some v) (St1 := fun i h => h.IsStrIter i1 (strIterType x) x t i) (St2 := fun i h => h.IsTupleIter i2 b i ∧ h.IsTuple b its2.toArray) S (draws_str hh i1 x t) (Draws.tuple hh i2 b bi its2.toArray) hz hTI hTO h1 ⟨h2, p2⟩ l1 (by rw [List.size_toArray, ← ll]; exact l2) (hend.imp id fun z => by show i = its2.toArray.size; rw [List.size_toArray, ← ll]; exact z) fun h' tk hk => ⟨rfl, I.turnedL (t' := tk) (ch := [z, TI, TO, i1, i2]) (fun c o hb q =>
      hk c o (fun q' => hb (by simp [q'])) (fun q' => hb (by simp [q'])) (fun q' => hb (by simp [q'])) (fun q' => hb (by simp [q'])) q) hf⟩
  self := fun A i s Q E st h => wpAny_pyIter_zip st.1 h
def iZipS (K : PySem.W.Frag) (ta : TA) : TI := fun σ H R => ta σ H fun vs H1 => ∃ x b ys, vs = [.str x, .ref b] ∧ SqT K H1 b ys ∧ R (ItzS K x b) H1
theorem pi_zipS {X : Cx} {e e2 : Expr} {ta : TA} {p pos tpos : Pos} {elts : List Expr} {kk : Nat} (hg : Gl X "zip") (hm : X.mg "zip" = none) (ha : PA X [e, e2] ta)
    (hs : starEach [e, e2] X.env = (false, eval e X.env) :: starEach [e2] X.env := by rfl) (hpl : (backTo pos (starEach [e2] X.env)).any (·.1) = false := by rfl) :
    PI X (.Tuple elts kk tpos) (.Call (.Name "zip" p) [e, e2] [] pos) (iZipS X.K ta) := by
  refine ⟨fun pins s σ H R I h => ?_⟩
  refine Call_ (ld_blt I hg hm PyProof.Rows.boot_zip (PyProof.Rows.callWith_type1 (thn (ha.run pos pins s σ H _ I h) fun us s1 ⟨vs, H1, I1, r1, q1⟩ => ?_) hs hpl))
  obtain ⟨x, b, ys, ex, hqy, q⟩ := q1
  subst ex
  cases r1 with
  | cons r rr =>
    cases rr with
    | cons r' rr =>
      cases rr
      obtain ⟨t, rfl⟩ := r
      cases r'
      have fresh5 : ∀ c, c ∈ [s1.heap.objs.size + 4, s1.heap.objs.size + 2, s1.heap.objs.size + 3, s1.heap.objs.size, s1.heap.objs.size + 1] → FpOk X pins H1 c := fun c hcm => by
        have e' : c = s1.heap.objs.size + 4 ∨ c = s1.heap.objs.size + 2 ∨ c = s1.heap.objs.size + 3 ∨ c = s1.heap.objs.size ∨ c = s1.heap.objs.size + 1 := by simpa using hcm
        have hle : s1.heap.objs.size ≤ c := by
          rcases e' with z | z | z | z | z
          · rw [z]; exact Nat.le_add_right _ _
          · rw [z]; exact Nat.le_add_right _ _
          · rw [z]; exact Nat.le_add_right _ _
          · rw [z]; exact Nat.le_refl _
          · rw [z]; exact Nat.le_add_right _ _
        exact I1.fpOk hle (I1.hok.fresh hle)
      obtain ⟨its2, rv2, p2, _⟩ := I1.tuple hqy
      obtain ⟨o2, ho2, _⟩ := id p2
      refine zip_begins2 (begins_text x t) (begins_tuple b its2.toArray) trivial p2 fun h' hz hTI hTO h1 h2 hsz hk => wpAny_pyIter_zip hz ?_
      have I2 : Inv X pins σ H1 { s1 with heap := h' } := I1.kept (t' := s1.toks) hk
      exact ⟨s1.heap.objs.size + 4, [s1.heap.objs.size + 4, s1.heap.objs.size + 2, s1.heap.objs.size + 3, s1.heap.objs.size, s1.heap.objs.size + 1], _, _, H1, rfl, I2, turn_zipS (zip_sep2 (fp1 := []) (fp2 := [b]) (fun _ z => (nomatch z)) (fun c hc => by rw [List.mem_singleton.mp hc]; exact Heap.lt_size ho2)), ⟨hz, hTI, ⟨_, _, hTO⟩, ⟨_, h1, rfl, rfl⟩, ⟨_, h2, rfl, rfl⟩⟩, fresh5, q⟩
/-- pairs -/
def zpL : List D → List D → List D
  | a :: as, b :: bs => .tup [a, b] :: zpL as bs
  | _, _ => []
theorem zpL_len : ∀ {as bs : List D}, (zpL as bs).length = min as.length bs.length
  | [], bs => by simp [zpL]
  | _ :: _, [] => by simp [zpL]
  | a :: as, b :: bs => by
    show (zpL as bs).length + 1 = _
    rw [zpL_len, List.length_cons, List.length_cons]
    omega
theorem zpL_get : ∀ {as bs : List D} {i : Nat} {d : D}, (zpL as bs)[i]? = some d → ∃ a b, as[i]? = some a ∧ bs[i]? = some b ∧ d = .tup [a, b]
  | [], _, i, d, h => by simp [zpL] at h
  | _ :: _, [], i, d, h => by simp [zpL] at h
  | a :: as, b :: bs, 0, d, h => by cases h; exact ⟨a, b, rfl, rfl, rfl⟩
  | a :: as, b :: bs, i + 1, d, h => by
    obtain ⟨a', b', h1, h2, h3⟩ := zpL_get (as := as) (bs := bs) (i := i) (d := d) h
    exact ⟨a', b', by simpa using h1, by simpa using h2, h3⟩
theorem signs_len {x : Str} : (signs x).length = x.cps.size := by unfold signs; simp
theorem src_zipS {K : PySem.W.Frag} {x : Str} {b : Addr} {vs : List V} {ds : List D} {G1 G0 : Hp} (h : SqT K G1 b vs) (r : Reps K G0 vs ds) : Src K (ItzS K x b) (zpL (signs x) ds) G1 G0 where
  go := fun i H O s1 s0 ho d hd => by
    obtain ⟨a, e, ha, hb, rfl⟩ := zpL_get hd
    obtain ⟨v, hv, q⟩ := r.get hb
    have hi : i < x.cps.size := by rw [← signs_len]; exact (List.getElem?_eq_some_iff.mp ha).1
    have hx : x.cps[i]? = some x.cps[i] := by simp [hi]
    have ea : a = .str ⟨#[x.cps[i]]⟩ := by
      unfold signs at ha
      rw [List.getElem?_map] at ha
      obtain ⟨c, hc, e⟩ := Option.map_eq_some_iff.mp ha
      have hc' : x.cps[i]? = some c := by simpa using hc
      rw [hx] at hc'
      cases hc'
      exact e.symm
    subst ea
    refine ⟨⟨_, v, s1.sqT h, hi, hv⟩, fun y H' z => ?_⟩
    obtain ⟨T, c, w, rfl, hT, rfl, hc, z⟩ := z
    have := z _ (s1.sqT h)
    rw [hv] at this; cases this
    rw [hx] at hc; cases hc
    have hTO : T ∉ O := fun z => by obtain ⟨o, e⟩ := ho T z; rw [hT] at e; cases e
    refine ⟨Sub.upd hT, ?_⟩
    rw [hid_upd hTO]
    exact .tup (SqT.of upd_same) (.cons (.str _) (.cons ((q.mono s0).mono (Sub.upd (by rw [hid_of hTO]; exact hT))) .nil))
  stop := fun H s1 => ⟨_, s1.sqT h, by rw [zpL_len, signs_len]; omega, by rw [zpL_len, r.length]; omega, by rw [zpL_len, signs_len, r.length]; omega⟩
def zpS : List D → Option (List D)
  | [.str x, .tup ds] => some (zpL (signs x) ds)
  | _ => none
section
variable {X : Cx} {xc : Nat → Addr} {W : WX} {Γ : List Sh} {a b e : Expr} {es : List Expr} {fs : En → Option (List D)} {ks : List Kd} {pos p2 p3 : Pos}
theorem i_zipS {elts : List Expr} {kk : Nat} {tpos : Pos} (ha : SAs X Γ [a, b] fs ks) (hm : X.mg "zip" = none) (ck : ks.all Kd.cu = true := by rfl) (hg : Gl X "zip" := by rfl) (hs : starEach [a, b] X.env = (false, eval a X.env) :: starEach [b] X.env := by rfl) (hpl : (backTo pos (starEach [b] X.env)).any (·.1) = false := by rfl) : SPI X Γ (.Tuple elts kk tpos) (.Call (.Name "zip" p2) [a, b] [] pos) (itA fs zpS) false := by
  obtain ⟨t, p, q⟩ := ha.ex
  refine ⟨_, pi_zipS hg hm p hs hpl, fun σ H R env fp Z xs E hf hR => ?_⟩
  obtain ⟨ds, hd, hx⟩ := Option.bind_eq_some_iff.mp hf
  refine q σ H _ env fp Z ds E hd fun vs H1 s1 h1 => ?_
  have r := h1.repsU ck
  unfold zpS at hx
  split at hx
  · rename_i x ys
    cases hx
    cases r with
    | cons r1 rr =>
      cases rr with
      | cons r2 rr =>
        cases rr
        cases r1
        cases r2 with
        | tup l r =>
          exact ⟨_, _, _, rfl, hid_sub.sqT l, hR _ H1 (hid (fp ++ Z) H1) (hid (fp ++ Z) H1) s1 (src_zipS l r) hid_sub Sub.refl fun _ => rfl⟩
  · cases hx
/-! tuple(e), with effects -/
theorem si_tuple {n : IA} (hm : X.mg "tuple" = none) (ha : SIA X xc W Γ [e] n) (hgl : Gl X "tuple" := by rfl) (he : starEach [e] X.env = (false, eval e X.env) :: starEach [] X.env := by rfl) : SI X xc W Γ (.Call (.Name "tuple" p2) [e] [] pos) (iaM n tuD) .u := by
  obtain ⟨t, p, q⟩ := ha.ex
  refine ⟨_, pe_callTy call_tuple_of hgl hm (by decide +kernel) p (by decide) (by decide) he (by rfl), iaM_sm q fun ds d vs H H' f0 fp Z Q env σ hd E hb rr hQ => ?_⟩
  unfold tuD at hd
  split at hd
  · cases hd
    obtain ⟨x, rfl, r⟩ := reps1 rr
    cases r with
    | lst l r =>
      exact ⟨_, _, rfl, .inl ⟨hid_sub.sqL l, fun p hp => hQ _ _ (Sub.upd hp) (by have z := new_tup (c := true) (H := H') E Sub.refl hp r; exact z)⟩⟩
  · cases hd
    obtain ⟨x, rfl, r⟩ := reps1 rr
    cases r with
    | tup l r => exact ⟨_, _, rfl, .inr ⟨hid_sub.sqT l, hQ _ _ Sub.refl (Rep.tup l r)⟩⟩
  · cases hd
/-! lengths of arguments with effects -/
theorem ia0_len : ∀ (env : En) (ds : List D) (e : En), ia0 env = some (.ok ds, e) → ds.length = 0 := fun env ds e h => by cases h; rfl
theorem ia1_len {m : IE} {n : IA} {k : Nat} (h : ∀ (env : En) (ds : List D) (e : En), n env = some (.ok ds, e) → ds.length = k) : ∀ (env : En) (ds : List D) (e : En), ia1 m n env = some (.ok ds, e) → ds.length = k + 1 := fun env ds e z => by
  unfold ia1 at z
  split at z
  · rename_i d e1 q
    split at z
    · rename_i ds2 e2 q2
      cases z
      rw [List.length_cons, h _ _ _ q2]
    · cases z
    · cases z
  · cases z
  · cases z
end
end Py

set_option Elab.async false
set_option linter.all false
set_option maxRecDepth 100000
set_option maxHeartbeats 4000000
/-! Own layer: a dict display with texts as keys; x.clear(); while True. -/
namespace Py
open PySem PySem.Spec PyProof.Rows L2

theorem merge_zip : ∀ {ls : List Key} {ws : List V} {ks : List Key} {vs : List V}, ks.length = vs.length → (ks ++ ls).Nodup → ls.length = ws.length → mergeK (ks.zip vs) (ls.zip ws) = (ks ++ ls).zip (vs ++ ws)
  | [], [], ks, vs, _, _, _ => by
    show ks.zip vs = _
    rw [List.append_nil, List.append_nil]
  | l :: ls, w :: ws, ks, vs, h, hn, hl => by
    have hk : hasK ks l = false := by
      unfold hasK
      rw [List.any_eq_false]
      intro j hj z
      have e := of_decide_eq_true z
      subst e
      exact (List.nodup_append.mp hn).2.2 j hj j (by simp) rfl
    have e : putK (ks.zip vs) l w = (ks ++ [l]).zip (vs ++ [w]) := by
      rw [putK_zip h]
      unfold dpk dpv
      rw [hk]
      rfl
    show mergeK (putK (ks.zip vs) l w) (ls.zip ws) = _
    rw [e, merge_zip (by simp [h]) (by rw [List.append_assoc]; exact hn) (by simpa using hl), List.append_assoc, List.append_assoc]
    rfl
  | [], _ :: _, _, _, _, _, h => nomatch h
  | _ :: _, [], _, _, _, _, h => nomatch h
section
variable {X : Cx} {xc : Nat → Addr} {W : WX} {np : Nat} {Γ : List Sh} {rk : Kd} {e ke : Expr} {fa : En → Option D} {fs : En → Option (List D)} {keys : List (Option Expr)} {values : List Expr} {ss : List Str} {pos p2 p3 p4 : Pos}
/-- the entries of a display -/
structure SDs (X : Cx) (Γ : List Sh) (pos : Pos) (keys : List (Option Expr)) (values : List Expr) (ss : List Str) (fs : En → Option (List D)) : Prop where
  ex : ∃ trs, PPs X pos keys values trs ∧ ∀ (σ : L2.St) (H : Hp) (Q : List (V × V) → Hp → Prop) (env : En) (fp Z : List Addr) (ds : List D), EOk X.K Γ env σ H fp Z → fs env = some ds →
    (∀ vs H', Sub H H' → vs.length = ss.length → Reps X.K (hid (fp ++ Z) H') vs ds → Q ((ss.map V.str).zip vs) H') → tPairs trs σ H Q
  al : keys.all (·.isSome) = true
  ln : keys.length = values.length
theorem sd_nil : SDs X Γ pos [] [] [] a0 := ⟨⟨_, pps_nil, fun σ H Q env fp Z ds E hf hQ => by cases hf; exact hQ [] H Sub.refl rfl .nil⟩, rfl, rfl⟩
theorem sd_cons {s : Str} (hk : SP X Γ ke (c0 (.str s)) .u) (hv : SP X Γ e fa .u) (hr : SDs X Γ pos keys values ss fs) : SDs X Γ pos (some ke :: keys) (e :: values) (s :: ss) (Py.a1 fa fs) := by
  obtain ⟨tk, pk, qk⟩ := hk.ex
  obtain ⟨tv, pv, qv⟩ := hv.ex
  obtain ⟨⟨tr, pr, qr⟩, al, ln⟩ := hr
  refine ⟨⟨_, pps_cons pk pv pr, fun σ H Q env fp Z ds E hf hQ => ?_⟩, by rw [List.all_cons, al]; rfl, by simp [ln]⟩
  obtain ⟨d, hd, hf⟩ := Option.bind_eq_some_iff.mp hf
  obtain ⟨ds', hds, hf⟩ := Option.bind_eq_some_iff.mp hf
  cases hf
  refine qk σ H _ env fp Z _ E rfl fun x H1 s1 h1 => ?_
  cases h1.rep
  refine qv σ H1 _ env fp Z _ (E.same s1) hd fun y H2 s2 h2 => ?_
  refine qr σ H2 _ env fp Z _ ((E.same s1).same s2) hds fun vs H3 s3 hl h3 => ?_
  exact hQ (y :: vs) H3 ((s1.trans s2).trans s3) (by simp [hl]) (.cons (Rep.mono (hid_mono s3) h2) h3)
theorem zip_str : ∀ (ss : List Str) (vs : List V), (ss.map V.str).zip vs = ((ss.map Sum.inr : List Key).zip vs).map fun kv => (kV kv.1, kv.2)
  | [], vs => by cases vs <;> rfl
  | _ :: _, [] => rfl
  | s :: ss, v :: vs => by
    show (V.str s, v) :: (ss.map V.str).zip vs = (V.str s, v) :: _
    rw [zip_str ss vs]
    rfl
def dspF (ss : List Str) (fs : En → Option (List D)) : En → Option D := fun env => (fs env).map fun ds => .dic (ss.map .inr) ds
theorem s_disp (h : SDs X Γ pos keys values ss fs) (h0 : keys ≠ [] := by simp) (h15 : keys.length ≤ 15 := by decide) (hn : (ss.map Sum.inr : List Key).Nodup := by decide +kernel) (hls : ss.length ≤ 15 := by decide) : SP X Γ (.Dict keys values pos) (dspF ss fs) (.nw (.dk .fz)) := by
  obtain ⟨⟨tr, pr, qr⟩, al, ln⟩ := h
  refine ⟨_, pe_disp pr al ln h0 h15, fun σ H Q env fp Z d E hf hQ p hp => ?_⟩
  obtain ⟨ds, hds, hf⟩ := Option.map_eq_some_iff.mp hf
  subst hf
  have hpO := E.fresh hp
  have E1 := E.hide (Y := [p]) (Sub.upd (o := .dK []) hp) fun b hb => by
    rw [List.mem_singleton.mp hb]
    exact ⟨hp, _, upd_same, nt_dK _⟩
  refine qr σ _ _ env fp ([p] ++ Z) ds E1 hds fun vs H2 s2 hl r => ?_
  have h2 : H2 p = some (.dK []) := s2 _ _ upd_same
  refine ⟨h2, (ss.map Sum.inr : List Key).zip vs, zip_str ss vs, by rw [List.length_zip, List.length_map]; omega, ?_⟩
  have e : mergeK ([] : List (Key × V)) ((ss.map Sum.inr : List Key).zip vs) = (ss.map Sum.inr : List Key).zip vs := by
    have z := merge_zip (ks := []) (vs := []) (ls := ss.map Sum.inr) (ws := vs) rfl hn (by rw [List.length_map]; exact hl.symm)
    exact z
  rw [e]
  have sb : Sub H (upd H2 p (.dK ((ss.map Sum.inr : List Key).zip vs))) := fun b o hb => by
    have q : b ≠ p := fun z => by subst z; rw [hp] at hb; cases hb
    rw [upd_ne q]
    exact s2 _ _ (by rw [upd_ne q]; exact hb)
  refine hQ _ _ sb ⟨[p], fun b hb => ?_, by simp, ?_⟩
  · have e : b = p := by simpa using hb
    subst e
    exact ⟨hp, hpO⟩
  · refine .dk (fp := []) upd_same (by rw [List.length_map]; exact hl.symm) ?_
    refine Trs.ofFz (Reps.mono (fun b o hb => ?_) r)
    obtain ⟨h1, h2⟩ := hid_some hb
    have q : b ≠ p := fun z => h1 (by subst z; simp)
    rw [hid_of (fun z => h1 (by
      rcases List.mem_append.mp z with z | z
      · exact absurd (List.mem_singleton.mp z) q
      · rcases List.mem_append.mp z with z | z
        · exact List.mem_append_left _ z
        · exact List.mem_append_right _ (List.mem_append_right _ z)))]
    rw [upd_ne q]
    exact h2
/-- a call with what is owned, that tells a new list of what cannot change -/
def imL : D → Option D
  | .lst ds => if D.imms ds = true then some (.lst ds) else none
  | _ => none
theorem s_callWL {es : List Expr} {ks : List Kd} {dfl : List D} {x : Str} {ps : List Str} {j kk : Nat} {Γp : List Sh} {F : DF} (h : Df X.prog X.w X.K X.mg X.base xc j x ps Γp (.nw (.li .fz)) F dfl) (hr : Room kk X.A) (ha : SAs X Γ (e :: es) fs ks) (hj : j ≤ kk := by decide) (hgl : Gl X x := by rfl) (hf : Γp.all Sh.isF = true := by rfl) (hlen : Γp.length = ks.length + dfl.length := by rfl)
    (hdb : (x == ("__debug__" : Str)) = false := by decide) (he : starEach (e :: es) X.env = (false, eval e X.env) :: starEach es X.env := by rfl) (hpl : (backTo pos (starEach es X.env)).any (·.1) = false := by rfl) {W0 : WX} (tk : Takes X W0 := by first | assumption | exact takes0) : SP X Γ (.Call (.Name x p2) (e :: es) [] pos) (b1 (bA fs (cD F dfl)) imL) (.nw (.li .fz)) := by
  obtain ⟨f, fd, dv, hm, G, kp, hb, hd, hfl⟩ := h.ex
  obtain ⟨t, p, q⟩ := ha.ex
  refine ⟨_, pe_callSD G (hr.mono hj) hgl hm kp hb hd (fun σ => passAt tk σ) p hdb he hpl, fun σ H Q env fp Z d E hF hQ => ?_⟩
  obtain ⟨y, hy, hd'⟩ := bind1 hF
  obtain ⟨ds, hds, hy'⟩ := Option.bind_eq_some_iff.mp hy
  refine q σ H _ env fp Z ds E hds fun vs H1 s1 h1 => ?_
  unfold cD at hy'
  split at hy'
  · rename_i d1 os hF1
    cases hy'
    have hlk : ∀ {ks : List Kd} {vs : List V} {ds : List D}, HKs X.K H fp Z H1 ks vs ds → ks.length = ds.length := fun h => by
      induction h with
      | nil => rfl
      | cons _ _ ih => simp [ih]
    have hl2 := hlk h1
    refine ⟨ds ++ dfl, [], [], _, _, EOk.args hf (by rw [hlen, hl2, List.length_append]) ?_ (by simp), hF1, fun H' f' Eo x => ?_⟩
    · have r : Reps X.K (hid [] H1) vs ds := h1.reps.mono fun b o h => by rw [hid_of (O := []) (by simp)]; exact h
      exact r.append (Reps.flats hfl)
    · intro v hv
      have s2 : Sub H1 H' := fun b o h => x.keep b o h (by simp)
      have s12 := s1.trans s2
      obtain ⟨fn, z1, z2, t, _⟩ := hv
      cases t with
      | @li _ a us es' fq ha2 trs =>
        simp only [imL] at hd'
        split at hd'
        · rename_i im
          cases hd'
          obtain ⟨e0, r0⟩ := trs.fzs
          subst e0
          have fresh : ∀ b ∈ [a], H b = none ∧ b ∉ fp ++ Z := fun b hb => by
            have n1 : H1 b = none := (z1 b hb).1.elim (fun z => nomatch z) fun z => z
            have n : H b = none := by
              cases q' : H b with
              | none => rfl
              | some o => rw [s1 b o q'] at n1; cases n1
            exact ⟨n, E.fresh n⟩
          refine hQ _ H' s12 ⟨[a], fresh, by simp, .li (fp := []) ha2 (Trs.ofFz ?_)⟩
          refine Reps.imms (fun b hb o ho => ?_) (r0.mono hid_sub) im
          rcases List.mem_append.mp hb with hb | hb
          · rw [List.mem_singleton.mp hb, ha2] at ho
            cases ho
            exact nt_lst _
          · exact (E.same s12).nt b hb o ho
        · cases hd'
  · cases hy'
/-- x.clear() -/
def qClr (i : Nat) : SE := fun env => (onL i (fun _ => some []) env).map fun e => (.nx, e)
theorem qs_clear (i : Nat) {x : Str} (hN : X.N[i]? = some x := by rfl) (hv : Vis X.env.scope x := by first | exact Or.inl rfl | exact Or.inr (Or.inl rfl) | exact Or.inr (Or.inr rfl)) (hs : Γ[i]? = some (.li .fz) := by rfl) (hd : (x == ("__debug__" : Str)) = false := by decide) (hcd : (x == ("__classdict__" : Str)) = false := by decide)
    (hsw : swapsWith (.Call (.Attribute (.Name x p2) "clear" p3) [] [] p4) none pos.line X.env = pure false := by rfl)
    (mk : ∀ (to : TE), PE X (.Name x p2) to → PE X (.Call (.Attribute (.Name x p2) "clear" p3) [] [] p4) (tBM0 X.K "list" rClear to) := by intro to ho; exact L2.pe_bm0 PySem.F.plainAttrs_list PySem.F.slot_list_clear PySem.F.type_list_clear L2.mt_clear ho) :
    SS X xc W np Γ rk (.Expr (.Call (.Attribute (.Name x p2) "clear" p3) [] [] p4) pos) (qClr i) := by
  refine ⟨_, ps_expr (mk _ (pe_var hN hv hd hcd)) hsw, fun D σ H env fp Z fl env' E hf hQ => ?_⟩
  obtain ⟨e2, h2, z⟩ := Option.map_eq_some_iff.mp hf
  cases z
  obtain ⟨xs, ys, hx, hy, rfl⟩ := onL_ok h2
  cases hy
  obtain ⟨a, vs, hσ, ha, r, ia, cont⟩ := E.lset hs hx
  obtain ⟨fp', E2, x2, _⟩ := cont [] [] .nil
  exact ⟨_, hσ, .inl ⟨rfl, vs, .inl (.inl ha)⟩, _, _, rfl, rfl, ha, hQ σ _ fp' E2 x2 Prot.refl⟩
end

/-! ### while True -/
def Nbk (f : SE) : Prop := ∀ ds e, f ds ≠ some (.bk, e)
theorem nbk_0 : Nbk q0 := fun _ _ h => by cases h
theorem nbk_N : Nbk qN := fun _ _ h => nomatch h
theorem nbk_q1 {f g : SE} (h1 : Nbk f) (h2 : Nbk g) : Nbk (q1 f g) := fun ds e z => by
  rcases q1_ok z with ⟨e1, _, h⟩ | ⟨h, _⟩
  · exact h2 e1 e h
  · exact h1 ds e h
theorem nbk_if {t : En → Option Bool} {f g : SE} (h1 : Nbk f) (h2 : Nbk g) : Nbk (qIf t f g) := fun ds e z => by
  unfold qIf at z
  split at z
  · exact h1 ds e z
  · exact h2 ds e z
  · cases z
theorem nbk_do {m : IE} {g : D → En → Option En} : Nbk (qDo m g) := fun ds e z => by
  unfold qDo at z
  split at z
  · obtain ⟨_, _, w⟩ := Option.map_eq_some_iff.mp z
    cases w
  · cases z
  · cases z
theorem nbk_rt {m : IE} : Nbk (qRt m) := fun ds e z => by
  unfold qRt at z
  split at z <;> cases z
theorem nbk_ap {i : Nat} {m : IE} : Nbk (qAp i m) := fun ds e z => by
  unfold qAp at z
  split at z
  · exact nbk_do _ _ z
  · cases z
theorem nbk_clr {i : Nat} : Nbk (qClr i) := fun ds e z => by
  obtain ⟨_, _, w⟩ := Option.map_eq_some_iff.mp z
  cases w
theorem forL_nbk {as : D → En → Option En} {b : SE} : ∀ (ds : List D) (env e : En), forL as b ds env ≠ some (.bk, e)
  | [], _, _, h => by cases h
  | d :: ds, env, e, h => by
    unfold forL at h
    split at h
    · cases h
    · split at h
      · exact forL_nbk ds _ e h
      · exact forL_nbk ds _ e h
      · cases h
      · rename_i q1 q2 q3
        exact q3 e h
theorem nbk_for {it : En → Option (List D)} {as : D → En → Option En} {b : SE} : Nbk (qFor it as b) := fun ds e z => by
  unfold qFor at z
  split at z
  · exact forL_nbk _ _ _ z
  · cases z
theorem whN_nx {t : En → Option Bool} {b : SE} (ht : ∀ e, t e ≠ some false) (hb : Nbk b) : ∀ (n : Nat) (env e : En), whN t b n env ≠ some (.nx, e)
  | 0, _, _, h => by cases h
  | n + 1, env, e, h => by
    unfold whN at h
    split at h
    · rename_i z; exact ht _ z
    · split at h
      · exact whN_nx ht hb n _ e h
      · exact whN_nx ht hb n _ e h
      · rename_i z; exact hb _ _ z
      · rename_i q1 q2 q3
        exact q1 e h
    · cases h
theorem nnx_wh {b : SE} (hb : Nbk b) : Nnx (qWh (tb (c0 (.bl true)) truD) b) := fun ds e z => by
  obtain ⟨n, hn⟩ := qWh_ok z
  exact whN_nx (fun e h => by cases h) hb n _ _ hn
end Py

set_option Elab.async false
set_option linter.all false
set_option maxRecDepth 100000
set_option maxHeartbeats 4000000
/-! Own layer: the program's error classes; raise. -/
namespace Py
open PySem PySem.Spec PyProof.Rows L2

/-! ### what the written part says of an error class -/
def oexB (K : PySem.W.Frag) (C : Addr) : Bool := match K.lookup C with
  | some ⟨oc, _, .cls cd, sl⟩ => decide (oc = .type "type") && (match cd.mro, sl.toList with
    | c :: bm, [_, _, _, _, n, _] => decide (c = .ref C) && (decide (n = some (.builtin "ValueError.__new__")) && (!cd.hasDel && (cd.hasDict && PySem.HandSPX.refsVE bm)))
    | _, _ => false)
  | _ => false
theorem oexB_ok {K : PySem.W.Frag} {C : Addr} (h : oexB K C = true) : ∃ nm q N bs bm sn sub ab col dd k0 k1 k2 k3 k5, K.lookup C = some (excClassObj nm q C N bs bm true sn sub ab col dd k0 k1 k2 k3 k5 "ValueError.__new__") ∧ PySem.HandSPX.refsVE bm = true := by
  unfold oexB at h
  cases q : K.lookup C with
  | none => rw [q] at h; cases h
  | some o =>
    rw [q] at h
    obtain ⟨oc, od, dt, ⟨sl⟩⟩ := o
    cases dt with
    | cls cd =>
      obtain ⟨h1, h2⟩ := Bool.and_eq_true_iff.mp h
      have e1 := of_decide_eq_true h1
      subst e1
      obtain ⟨nm, bs, mro, ns, qn, hd, sn, sub, ab, col, del⟩ := cd
      match mro, sl, q, h2 with
      | c :: bm, [k0, k1, k2, k3, n, k5], q, h2 =>
        obtain ⟨z1, h2⟩ := Bool.and_eq_true_iff.mp (show (decide (c = .ref C) && (decide (n = some (.builtin "ValueError.__new__")) && (!del && (hd && PySem.HandSPX.refsVE bm)))) = true from h2)
        obtain ⟨z2, h2⟩ := Bool.and_eq_true_iff.mp h2
        obtain ⟨z3, h2⟩ := Bool.and_eq_true_iff.mp h2
        obtain ⟨z4, z5⟩ := Bool.and_eq_true_iff.mp h2
        have y1 := of_decide_eq_true z1
        have y2 := of_decide_eq_true z2
        subst y1 y2
        cases del <;> cases hd <;> first | (cases z3; done) | (cases z4; done) | skip
        exact ⟨nm, qn, ns, bs, bm, sn, sub, ab, col, od, k0, k1, k2, k3, k5, rfl, z5⟩
    | _ => cases h
/-- all facts of an error class at C -/
def exB (K : PySem.W.Frag) (C : Addr) : Bool := oexB K C && (decide (PySem.W.findIn K (.ref C) "__setattr__" = some (some (.builtin "object.__setattr__"))) && (decide (PySem.W.subIn K (.ref C) (.type "BaseException") = some true) && (decide (PySem.W.typeIn K (.ref C) = some (.type "type")) && (PySem.W.keepIn K (.ref C) &&
  (xfB K C && (decide (PySem.W.findIn K (.ref C) "at" = some none) && (decide (PySem.W.findIn K (.ref C) "__class__" = some (some (.builtin "object.__class__"))) && (decide (PySem.W.specialIn K (.builtin "object.__class__") "__get__" = some (some (.builtin "getset_descriptor.__get__"))) && (decide (PySem.W.takesIn K (.builtin "object.__class__") = some true) && decide (PySem.W.mroIn K C (.type "object") = some true))))))))))
structure Ex (K : PySem.W.Frag) (C : Addr) : Prop where
  o : OexC K C
  xf : XfC K C
  no : PySem.W.findIn K (.ref C) "at" = some none
  ha : PySem.W.findIn K (.ref C) "__class__" = some (some (.builtin "object.__class__"))
  hn : PySem.W.specialIn K (.builtin "object.__class__") "__get__" = some (some (.builtin "getset_descriptor.__get__"))
  ht : PySem.W.takesIn K (.builtin "object.__class__") = some true
  hm : PySem.W.mroIn K C (.type "object") = some true
theorem exB_ok {K : PySem.W.Frag} {C : Addr} (h : exB K C = true) : Ex K C := by
  obtain ⟨h1, h⟩ := Bool.and_eq_true_iff.mp h
  obtain ⟨h2, h⟩ := Bool.and_eq_true_iff.mp h
  obtain ⟨h3, h⟩ := Bool.and_eq_true_iff.mp h
  obtain ⟨h4, h⟩ := Bool.and_eq_true_iff.mp h
  obtain ⟨h5, h⟩ := Bool.and_eq_true_iff.mp h
  obtain ⟨h6, h⟩ := Bool.and_eq_true_iff.mp h
  obtain ⟨h7, h⟩ := Bool.and_eq_true_iff.mp h
  obtain ⟨h8, h⟩ := Bool.and_eq_true_iff.mp h
  obtain ⟨h9, h⟩ := Bool.and_eq_true_iff.mp h
  obtain ⟨h10, h11⟩ := Bool.and_eq_true_iff.mp h
  exact ⟨⟨oexB_ok h1, of_decide_eq_true h2, of_decide_eq_true h3, of_decide_eq_true h4, h5⟩, xfB_ok h6, of_decide_eq_true h7, of_decide_eq_true h8, of_decide_eq_true h9, of_decide_eq_true h10, of_decide_eq_true h11⟩
/-- of the class R above: R.__init__ is ValueError's -/
def upB (K : PySem.W.Frag) (R : Addr) : Bool := PySem.W.readsIn K R (.type "type") && (decide (PySem.W.specialIn K (.ref R) "__getattribute__" = some (some (.builtin "type.__getattribute__"))) && (match PySem.W.findCls K (.ref R) (.type "type") "__init__" with
  | some (.val v) => decide (v = .builtin "ValueError.__init__")
  | _ => false))
structure Up (K : PySem.W.Frag) (R : Addr) : Prop where
  rd : PySem.W.readsIn K R (.type "type") = true
  sp : PySem.W.specialIn K (.ref R) "__getattribute__" = some (some (.builtin "type.__getattribute__"))
  fc : PySem.W.findCls K (.ref R) (.type "type") "__init__" = some (.val (.builtin "ValueError.__init__"))
theorem upB_ok {K : PySem.W.Frag} {R : Addr} (h : upB K R = true) : Up K R := by
  obtain ⟨h1, h⟩ := Bool.and_eq_true_iff.mp h
  obtain ⟨h2, h3⟩ := Bool.and_eq_true_iff.mp h
  refine ⟨h1, of_decide_eq_true h2, ?_⟩
  split at h3
  · rename_i v q
    rw [q, of_decide_eq_true h3]
  · cases h3
section
variable {X : Cx} {e : Expr} {es : List Expr} {ta : TA} {x : Str} {p p1 p2 pos : Pos}
/-- R.__init__(self, ..), R a class of the program over ValueError -/
theorem pe_upinit {pl : Sem Bool} {R : Addr} (U : Up X.K R) (hg : Gl X x) (hm : X.mg x = some (.ref R)) (ha : PA X (e :: es) ta)
    (hd : (x == ("__debug__" : Str)) = false := by decide)
    (hc : eval (.Call (.Attribute (.Name x p1) "__init__" p2) (e :: es) [] pos) X.env = (do
      let ov ← eval (.Name x p1) X.env
      standAt p2.atName
      let (f, first) ← holding [ov] (getMethod ov "__init__" pl)
      callWith pos f first (backTo pos (starEach (e :: es) X.env)) (backToKw pos (keywordEach [] X.env))) := by rfl)
    (he : starEach (e :: es) X.env = (false, eval e X.env) :: starEach es X.env := by rfl) (hpl : (backTo pos (starEach es X.env)).any (·.1) = false := by rfl) :
    PE X (.Call (.Attribute (.Name x p1) "__init__" p2) (e :: es) [] pos) (tVeI X.K ta) := ⟨fun pins s σ H Q I h => by
  refine PySem.W.methodCall_KW (ld_glob I hg hm ?_ hd) hc
  refine PySem.W.method_cls I.kIn U.sp (PySem.W.cls_value I.kIn U.rd U.fc rfl ?_)
  change wpAny _ _ (callWith pos (.builtin "ValueError.__init__") ([] : List Value) _ _) _ _ _
  refine PyProof.Rows.callWith_method1 (thn (ha.run pos pins _ σ H _ (I.tok _) h) fun us s1 hh => ?_) he hpl
  obtain ⟨vs, H1, I1, r1, a, C, ws, rfl, hl, T, ea, q⟩ := hh
  cases r1 with
  | cons ra rw' =>
    rename_i u0 ur
    obtain rfl : u0 = Value.ref a := ra
    exact oinit_ok T I1 ea (by rw [← Paired.length rw', sizeLine_eq]; omega) fun s' J => ⟨.non, H1, J, rfl, q⟩⟩
end
/-! ### the text of __init__ -/
/-- a statement of a class -/
def inCls (s : Stmt) (i : Nat) : Stmt := match s with
  | .ClassDef _ _ _ b _ _ _ _ _ _ _ => b.getD i (.Pass ⟨0, 0, 0, 0⟩)
  | _ => .Pass ⟨0, 0, 0, 0⟩
/-- what __init__(self, at) of the class C promises -/
def spInit (C : Addr) : Sp := fun vs H Q _ => ∃ (a : Addr) (v : V), vs = [.ref a, v] ∧ H a = some (exo a C none) ∧ ∀ dx, H dx = none → dx ≠ a → Q .non (upd (upd H dx (exd dx [("at", v)])) a (exo a C (some dx)))
section
variable {P : Program} {w : World} {K : PySem.W.Frag} {mg : Str → Option Value} {base : Heap}
theorem init_ok {name qual : Str} {params : Arguments} {body : List Stmt} {scope : Scope} {dvs : List V} {kws : List (Str × V)} {f : Addr} {fd : FuncData} {C : Addr} {m : Str}
    (F : FunD K name qual params body scope dvs kws f fd) (S : FnScope ["self", "at"] ["self", "at"] scope) (T : Ex K C)
    (hv : ∀ (cdv : Value) (A : Around) (outer : List Env) (s : Shared) (H : Hp) (E : XK), PSs (cxOf (L2.CX P w) P w K mg base ["self", "at"] qual scope f cdv A outer s H E) body
      (tSeq (tDrop (tVeI K (tCons (tVar 0) (tCons (tC (.str m)) tNil)))) (tSeq (tOst K "at" (tVar 0) (tVar 1)) tNext))) :
    FnOk P w K mg base (L2.CX P w) 1 f fd ["self", "at"] (spInit C) := by
  refine F.ok S (fun vs H Q E h => by obtain ⟨a, v, rfl, _⟩ := h; rfl) (fun cdv A outer s H vs Q E hr h => ⟨_, hv cdv A outer s H E, ?_⟩)
  obtain ⟨a, v, rfl, ha, hq⟩ := h
  exact ⟨.ref a, rfl, a, C, [.str m], rfl, by simp, T.o, ha, v, rfl, .ref a, rfl, a, C, rfl, T.o, T.no, .inl ⟨ha, hq⟩⟩
end
/-- an error class with its __init__, for raise -/
structure Rz (P : Program) (w : World) (K : PySem.W.Frag) (mg : Str → Option Value) (base : Heap) (x : Str) (C : Addr) : Prop where
  hm : mg x = some (.ref C)
  ex : Ex K C
  ini : ∃ (fI : Addr) (fd : FuncData), PySem.W.findIn K (.ref C) "__init__" = some (some (.ref fI)) ∧ PySem.W.typeIn K (.ref fI) = some (.type "function") ∧ FnOk P w K mg base (L2.CX P w) 1 fI fd ["self", "at"] (spInit C) ∧ Binds K fd ["self", "at"] []
def qRaise (c : Nat) (f : En → Option D) : SE := fun env => (f env).map fun d => (.ex c d, env)
section
variable {X : Cx} {xc : Nat → Addr} {W : WX} {np : Nat} {Γ : List Sh} {rk : Kd} {e : Expr} {f : En → Option D} {x : Str} {kk : Nat} {p pos pos2 : Pos}
theorem qs_raise (c : Nat) (R : Rz X.prog X.w X.K X.mg X.base x (xc c)) (hr : Room kk X.A) (he : SP X Γ e f .u) (hc : X.calm = true) (tk : Takes X W) (hj : 2 ≤ kk := by decide) (hg : Gl X x := by rfl) (hdb : (x == ("__debug__" : Str)) = false := by decide)
    (hs : starEach (e :: []) X.env = (false, eval e X.env) :: starEach [] X.env := by rfl) (hpl : (backTo pos (starEach [] X.env)).any (·.1) = false := by rfl) :
    SS X xc W np Γ rk (.Raise (some (.Call (.Name x p) [e] [] pos)) none pos2) (qRaise c f) := by
  obtain ⟨t, pt, q⟩ := he.ex
  obtain ⟨fI, fd, i1, i2, i3, i4⟩ := R.ini
  refine ⟨_, ps_raise hc tk (pmk_oex (ds := []) (dvs := []) R.ex.o i1 i2 i3 (hr.mono hj) i4 .nil (fun pins σ H s e s' I c => passAt takes0 σ pins H s e s' I c) hg R.hm (pa_cons pt pa_nil hs) hdb hs hpl), fun D σ H env fp Z fl env' E hf hQ => ?_⟩
  obtain ⟨d, hd, z⟩ := Option.map_eq_some_iff.mp hf
  cases z
  refine q σ H _ env fp Z d E hd fun v H1 s1 h1 => ⟨by simp, fun a ha => ⟨a, v, rfl, upd_same, fun dx hdx ne => ⟨rfl, dx, [("at", v)], upd_same, ?_, ?_, ?_⟩⟩⟩
  · rw [upd_ne ne, upd_same]
  · rw [upd_ne ne] at hdx; exact hdx
  · rw [upd_ne ne] at hdx
    have e1 : upd (L2.del (upd (upd (upd H1 a (exo a (xc c) none)) dx (exd dx [("at", v)])) a (exo a (xc c) (some dx))) a) dx (.xd [("at", v)]) = upd H1 dx (.xd [("at", v)]) := by
      funext b
      by_cases hb : b = dx
      · subst hb; rw [upd_same, upd_same]
      · rw [upd_ne hb, upd_ne hb]
        by_cases hb2 : b = a
        · subst hb2; rw [L2.del_same]; exact ha.symm
        · rw [L2.del_ne hb2, upd_ne hb2, upd_ne hb, upd_ne hb2]
    rw [e1]
    have s2 : Sub H (upd H1 dx (.xd [("at", v)])) := s1.trans (Sub.upd hdx)
    have E1 := E.same s1
    have fr : dx ∉ fp ++ Z := E1.fresh hdx
    refine hQ σ _ fp (E.same s2) (Ext.same s2) Prot.refl _ _ ⟨rfl, .inr ⟨dx, v, rfl, ?_, ?_⟩⟩
    · rw [hid_of fr, upd_same]
    · exact Rep.mono (hid_mono (Sub.upd hdx)) h1
end
end Py

set_option Elab.async false
set_option linter.all false
set_option maxRecDepth 100000
set_option maxHeartbeats 4000000
/-! Own layer: try .. except X as e. -/
namespace Py
open PySem PySem.Spec PyProof.Rows L2

/-! ### the caught exception -/
def exD (a : Addr) (od : Option Addr) (d : D) : D := match od with
  | some dd => .ins a ["at"] [.int (dd : Nat), d]
  | none => .ins a [] []
def exOk (a : Addr) (od : Option Addr) (d : D) : Bool := match d, od with
  | .ins a' [_] [.int i, _], some dd => decide (a' = a) && decide (i = (dd : Nat))
  | .ins a' [] [], none => decide (a' = a)
  | _, _ => false
def isE (a : Addr) (od : Option Addr) (b : Bool) (d : D) : Option D := if exOk a od d = true then some (.bl b) else none
def atE (a : Addr) (od : Option Addr) (d : D) : Option D := if exOk a od d = true then (match d with
  | .ins _ _ [_, x] => some x
  | _ => none) else none
theorem exOk_ex {a : Addr} {od : Option Addr} {d : D} : exOk a od (exD a od d) = true := by cases od <;> simp [exOk, exD]
theorem isE_ex {a : Addr} {od : Option Addr} {b : Bool} {d : D} : isE a od b (exD a od d) = some (.bl b) := if_pos exOk_ex
theorem atE_ex {a dd : Addr} {d : D} : atE a (some dd) (exD a (some dd) d) = some d := if_pos exOk_ex
theorem Rep.ex {K : PySem.W.Frag} {G : Hp} {v : V} {d : D} {a : Addr} {od : Option Addr} (r : Rep K G v d) (h : exOk a od d = true) : v = .ref a ∧ ∀ dd, od = some dd → ∃ w x, G dd = some (.xd [("at", w)]) ∧ Rep K G w x ∧ d = .ins a ["at"] [.int (dd : Nat), x] := by
  cases r with
  | exc h1 h2 =>
    cases od with
    | none => cases h
    | some dd =>
      obtain ⟨q1, q2⟩ := Bool.and_eq_true_iff.mp h
      have e1 := of_decide_eq_true q1
      have e2 := of_decide_eq_true q2
      subst e1
      have e3 := Int.ofNat.inj e2
      subst e3
      exact ⟨rfl, fun dd2 e => by cases e; exact ⟨_, _, h1, h2, rfl⟩⟩
  | exn =>
    cases od with
    | none =>
      have e1 := of_decide_eq_true (show decide (_ = a) = true from h)
      subst e1
      exact ⟨rfl, fun dd e => nomatch e⟩
    | some dd => cases h
  | _ => cases od <;> cases h
section
variable {X : Cx} {a C : Addr} {oe : Obj} {od : Option Addr} {pn : List (Addr × Obj)} {Γ : List Sh} {i : Nat} {n y : Str} {p p2 p3 pos : Pos} {e : Expr} {es : List Expr}
/-- the exception as it lies in the heap -/
theorem inst_ex {pins : List (Addr × Obj)} {σ : L2.St} {H : Hp} {s : Shared} (I : Inv (X.suite a ((a, oe) :: pn)) pins σ H s) (hz : Zc (.ref C) od oe) (hf : ∃ vs, oe.data = .fields vs) (hd : ∀ dd, od = some dd → ∃ w, H dd = some (.xd [("at", w)])) :
    ∃ oo, PySem.W.InstAt s.heap a oe C oo := by
  obtain ⟨ha, _⟩ := I.pin (a, oe) (List.mem_append_left _ List.mem_cons_self)
  obtain ⟨vs, hv⟩ := hf
  have nc : PySem.W.notCls oe = true := by unfold PySem.W.notCls; rw [hv] <;> rfl
  cases od with
  | none => exact ⟨none, ha, hz.1, nc, by rw [hz.2]; trivial⟩
  | some dd =>
    obtain ⟨w, hw⟩ := hd dd rfl
    obtain ⟨mA, hns, _⟩ := (show ObjOk X.prog X.w H s.heap dd (.xd [("at", w)]) from I.hok dd _ hw)
    obtain ⟨oo, ho, _⟩ := lookIn_ns hns
    exact ⟨some oo, ha, hz.1, nc, by rw [hz.2]; exact ho⟩
theorem kitx_ex {oo : Option Obj} (T : Ex X.K C) : PySem.W.KitX X.K (.ref a) (.ref C) (fun h => PySem.W.InstAt h a oe C oo) := by
  obtain ⟨cd, hc, _⟩ := PySem.W.any_some T.xf.hdC
  exact PySem.W.kitx_exc (by rw [hc]; rfl) T.xf.ga T.xf.gg T.xf.exC T.ha T.hn T.ht T.hm
def rEx (K : PySem.W.Frag) (a C : Addr) (od : Option Addr) : List V → Hp → VK → Prop := fun xs H Q => ∃ (c : V) (u : Value) (b : Bool), xs = [.ref a, c] ∧ ClsV c u ∧ PySem.W.kitOne K (.ref C) u = some b ∧ (∀ dd, od = some dd → ∃ w, H dd = some (.xd [("at", w)])) ∧ Q (.bl b) H
def rExT (K : PySem.W.Frag) (a C : Addr) (od : Option Addr) : List V → Hp → VK → Prop := fun xs H Q => ∃ (tp : Addr) (cs : List V) (us : List Value) (b : Bool), xs = [.ref a, .ref tp] ∧ H tp = some (.tup cs) ∧ Paired ClsV cs us ∧ PySem.W.kitAny K (.ref C) us = some b ∧ (∀ dd, od = some dd → ∃ w, H dd = some (.xd [("at", w)])) ∧ Q (.bl b) H
theorem call_ex (T : Ex X.K C) (hz : Zc (.ref C) od oe) (hf : ∃ vs, oe.data = .fields vs) : CallR (X.suite a ((a, oe) :: pn)) (.builtin "isinstance") (rEx X.K a C od) := by
  intro pins s σ H xs us Q I r h
  obtain ⟨c, u, b, rfl, k, e, hd, q⟩ := h
  obtain ⟨u1, u2, rfl, r1, r2⟩ := vals2 r
  have e2 := k.eq r2
  subst e2
  cases (show u1 = Value.ref a from r1)
  obtain ⟨oo, J⟩ := inst_ex I hz hf hd
  exact PySem.W.kia_one (kitx_ex T) I.kIn J e (fun z => nomatch z) fun tk => ⟨.bl b, H, I.tok tk, rfl, q⟩
theorem call_exT (T : Ex X.K C) (hz : Zc (.ref C) od oe) (hf : ∃ vs, oe.data = .fields vs) : CallR (X.suite a ((a, oe) :: pn)) (.builtin "isinstance") (rExT X.K a C od) := by
  intro pins s σ H xs us Q I r h
  obtain ⟨tp, cs, ws, b, rfl, hT, k, e, hd, q⟩ := h
  obtain ⟨u1, u2, rfl, r1, r2⟩ := vals2 r
  cases (show u1 = Value.ref a from r1)
  cases (show u2 = Value.ref tp from r2)
  obtain ⟨oo, J⟩ := inst_ex I hz hf hd
  obtain ⟨_, its, rv, o, h1, h2, n, h3⟩ := (show ObjOk X.prog X.w H s.heap tp (.tup cs) from I.hok tp _ hT)
  cases ClsV.all k rv
  obtain ⟨oc, od', dt, sl⟩ := o
  dsimp only at h2 h3
  subst h2 h3
  exact PySem.W.kia_tup (kitx_ex T) I.kIn J h1 e (fun z => nomatch z) fun tk => ⟨.bl b, H, I.tok tk, rfl, q⟩
/-- a class that is named -/
structure Cv (X : Cx) (e : Expr) (c : V) (u : Value) : Prop where
  pe : PE X e (tC c)
  k : ClsV c u
theorem cv_own {C2 : Addr} (hm : X.mg y = some (.ref C2)) (hg : Gl X y := by rfl) (hd : (y == ("__debug__" : Str)) = false := by decide) : Cv X (.Name y p) (.ref C2) (.ref C2) := ⟨pe_glob hg hm rfl hd, .own C2⟩
theorem cv_ty {T : String} (hm : X.mg y = none) (hv : bootBuiltins y = some (.type T) := by decide +kernel) (hg : Gl X y := by rfl) (hn : y ≠ "__name__" := by decide) (hd : (y == ("__debug__" : Str)) = false := by decide) : Cv X (.Name y p) (.ty T) (.type T) := ⟨pe_bltn hg hm hv rfl hn hd, .ty T⟩
inductive Cvs (X : Cx) : List Expr → List V → List Value → Prop
  | nil : Cvs X [] [] []
  | cons {e : Expr} {es : List Expr} {c : V} {cs : List V} {u : Value} {us : List Value} : Cv X e c u → Cvs X es cs us → starEach (e :: es) X.env = (false, eval e X.env) :: starEach es X.env → Cvs X (e :: es) (c :: cs) (u :: us)
def tCs : List V → TA
  | [] => tNil
  | c :: cs => tCons (tC c) (tCs cs)
theorem tCs_ok : ∀ {cs : List V} {σ : L2.St} {H : Hp} {Q : List V → Hp → Prop}, Q cs H → tCs cs σ H Q
  | [], _, _, _, h => h
  | c :: cs, σ, H, Q, h => tCs_ok (cs := cs) (Q := fun xs H2 => Q (c :: xs) H2) h
theorem Cvs.pa : ∀ {es : List Expr} {cs : List V} {us : List Value}, Cvs X es cs us → PA X es (tCs cs)
  | _, _, _, .nil => pa_nil
  | _, _, _, .cons c r h => pa_cons c.pe (Cvs.pa r) h
theorem Cvs.k : ∀ {es : List Expr} {cs : List V} {us : List Value}, Cvs X es cs us → Paired ClsV cs us
  | _, _, _, .nil => .nil
  | _, _, _, .cons c r h => .cons c.k (Cvs.k r)
/-- the slot of the caught exception -/
theorem slot_ex {K : PySem.W.Frag} {σ : L2.St} {H : Hp} {env : En} {fp Z : List Addr} {d : D} (E : EOk K Γ env σ H fp Z) (hs : Γ[i]? = some .fz) (hd : env[i]? = some (some d)) (h : exOk a od d = true) :
    σ[i]? = some (some (.ref a)) ∧ ∀ dd, od = some dd → ∃ w x, hid (fp ++ Z) H dd = some (.xd [("at", w)]) ∧ Rep K (hid (fp ++ Z) H) w x ∧ d = .ins a ["at"] [.int (dd : Nat), x] := by
  obtain ⟨⟨fq, t, _, _⟩, _, _⟩ := E
  obtain ⟨v, fv, h1, h2, _, _⟩ := t.get hd hs
  cases h2 with
  | fz r =>
    obtain ⟨e, z⟩ := r.ex h
    subst e
    exact ⟨h1, z⟩
theorem vr_some {env : En} {d : D} (h : vr i env = some d) : env[i]? = some (some d) := by
  unfold vr at h
  cases q : env[i]? with
  | none => rw [q] at h; cases h
  | some o =>
    rw [q] at h
    exact congrArg some h
theorem s_isE (i : Nat) {b : Bool} {c : V} {u : Value} (T : Ex X.K C) (hz : Zc (.ref C) od oe) (hf : ∃ vs, oe.data = .fields vs) (cv : Cv (X.suite a ((a, oe) :: pn)) e c u) (hk : PySem.W.kitOne X.K (.ref C) u = some b) (hm : X.mg "isinstance" = none) (hN : X.N[i]? = some n := by rfl)
    (hv : Vis X.env.scope n := by first | exact Or.inl rfl | exact Or.inr (Or.inl rfl) | exact Or.inr (Or.inr rfl)) (hs : Γ[i]? = some .fz := by rfl) (hd : (n == ("__debug__" : Str)) = false := by decide) (hcd : (n == ("__classdict__" : Str)) = false := by decide) (hgl : Gl (X.suite a ((a, oe) :: pn)) "isinstance" := by rfl)
    (he : starEach [.Name n p3, e] X.env = (false, eval (.Name n p3) X.env) :: starEach [e] X.env := by rfl) (he2 : starEach [e] X.env = (false, eval e X.env) :: starEach [] X.env := by rfl) (hpl : (backTo pos (starEach [e] X.env)).any (·.1) = false := by rfl) :
    SP (X.suite a ((a, oe) :: pn)) Γ (.Call (.Name "isinstance" p2) [.Name n p3, e] [] pos) (b1 (vr i) (isE a od b)) .u := by
  refine ⟨_, pe_callB (call_ex T hz hf) hgl hm (by decide +kernel) (pa_cons (pe_var hN hv hd hcd) (pa_cons cv.pe pa_nil he2) he) (by decide) (by decide) he hpl, fun σ H Q env fp Z d E hF hQ => ?_⟩
  obtain ⟨y, hy, hF⟩ := bind1 hF
  unfold isE at hF
  split at hF
  · rename_i hx
    cases hF
    obtain ⟨h1, h2⟩ := slot_ex E hs (vr_some hy) hx
    refine ⟨_, h1, c, u, b, rfl, cv.k, hk, fun dd ed => ?_, hQ _ _ Sub.refl (Rep.bl _)⟩
    obtain ⟨w, _, hw, _⟩ := h2 dd ed
    exact ⟨w, (hid_some hw).2⟩
  · cases hF
theorem s_isET (i : Nat) {b : Bool} {cs : List V} {us : List Value} {j : Nat} {tpos : Pos} (T : Ex X.K C) (hz : Zc (.ref C) od oe) (hf : ∃ vs, oe.data = .fields vs) (cv : Cvs (X.suite a ((a, oe) :: pn)) es cs us) (hk : PySem.W.kitAny X.K (.ref C) us = some b) (hm : X.mg "isinstance" = none) (hl : cs.length ≤ 1000 := by simp) (hN : X.N[i]? = some n := by rfl)
    (hv : Vis X.env.scope n := by first | exact Or.inl rfl | exact Or.inr (Or.inl rfl) | exact Or.inr (Or.inr rfl)) (hs : Γ[i]? = some .fz := by rfl) (hd : (n == ("__debug__" : Str)) = false := by decide) (hcd : (n == ("__classdict__" : Str)) = false := by decide) (hgl : Gl (X.suite a ((a, oe) :: pn)) "isinstance" := by rfl)
    (he : starEach [.Name n p3, .Tuple es j tpos] X.env = (false, eval (.Name n p3) X.env) :: starEach [.Tuple es j tpos] X.env := by rfl) (he2 : starEach [.Tuple es j tpos] X.env = (false, eval (.Tuple es j tpos) X.env) :: starEach [] X.env := by rfl) (hpl : (backTo pos (starEach [.Tuple es j tpos] X.env)).any (·.1) = false := by rfl) :
    SP (X.suite a ((a, oe) :: pn)) Γ (.Call (.Name "isinstance" p2) [.Name n p3, .Tuple es j tpos] [] pos) (b1 (vr i) (isE a od b)) .u := by
  refine ⟨_, pe_callB (call_exT T hz hf) hgl hm (by decide +kernel) (pa_cons (pe_var hN hv hd hcd) (pa_cons (pe_tup cv.pa) pa_nil he2) he) (by decide) (by decide) he hpl, fun σ H Q env fp Z d E hF hQ => ?_⟩
  obtain ⟨y, hy, hF⟩ := bind1 hF
  unfold isE at hF
  split at hF
  · rename_i hx
    cases hF
    obtain ⟨h1, h2⟩ := slot_ex E hs (vr_some hy) hx
    refine ⟨_, h1, tCs_ok ⟨by rw [sizeLine_eq]; omega, fun tp htp => ⟨tp, cs, us, b, rfl, upd_same, cv.k, hk, fun dd ed => ?_, hQ _ _ (Sub.upd htp) (Rep.bl _)⟩⟩⟩
    obtain ⟨w, _, hw, _⟩ := h2 dd ed
    exact ⟨w, Sub.upd htp _ _ (hid_some hw).2⟩
  · cases hF
/-- e.at -/
theorem s_at (i : Nat) (T : Ex X.K C) (hz : Zc (.ref C) od oe) (hf : ∃ vs, oe.data = .fields vs) (hN : X.N[i]? = some n := by rfl) (hv : Vis X.env.scope n := by first | exact Or.inl rfl | exact Or.inr (Or.inl rfl) | exact Or.inr (Or.inr rfl)) (hs : Γ[i]? = some .fz := by rfl) (hd : (n == ("__debug__" : Str)) = false := by decide) (hcd : (n == ("__classdict__" : Str)) = false := by decide)
    (hb : attributeBase (.Name n p2) "at" X.env (eval (.Name n p2) X.env) = eval (.Name n p2) X.env := by rfl) : SP (X.suite a ((a, oe) :: pn)) Γ (.Attribute (.Name n p2) "at" pos) (b1 (vr i) (atE a od)) .u := by
  refine ⟨_, pe_xf (d := od) T.xf T.no hz hf (pe_var hN hv hd hcd) hb, fun σ H Q env fp Z d E hF hQ => ?_⟩
  obtain ⟨y, hy, hG⟩ := bind1 hF
  clear hF
  unfold atE at hG
  split at hG
  · rename_i hx
    obtain ⟨h1, h2⟩ := slot_ex E hs (vr_some hy) hx
    cases od with
    | none =>
      split at hG
      · simp [exOk] at hx
      · cases hG
    | some dd =>
      obtain ⟨w, x, hw, hr, rfl⟩ := h2 dd rfl
      cases hG
      exact ⟨_, h1, rfl, rfl, dd, [("at", w)], w, rfl, (hid_some hw).2, by simp [List.lookup], hQ _ _ Sub.refl hr⟩
  · cases hG
end
end Py

set_option Elab.async false
set_option linter.all false
set_option maxRecDepth 100000
set_option maxHeartbeats 4000000
/-! Own layer: the statement try .. except X as e. -/
namespace Py
open PySem PySem.Spec PyProof.Rows L2
def Fl.isEx : Fl → Bool
  | .ex _ _ => true
  | _ => false
open Classical in
/-- the one thing of which P is told, where there is one -/
noncomputable def pick (P : Fl × En → Prop) : Option (Fl × En) := if h : ∃ r, P r then some (Classical.choose h) else none
theorem pick_ok {P : Fl × En → Prop} {r : Fl × En} (h : pick P = some r) : P r := by
  unfold pick at h
  split at h
  · rename_i ex
    cases h
    exact Classical.choose_spec ex
  · cases h
theorem pick_of {P : Fl × En → Prop} {r : Fl × En} (h : P r) (u : ∀ r', P r' → r' = r) : pick P = some r := by
  unfold pick
  rw [dif_pos ⟨r, h⟩, u _ (Classical.choose_spec (⟨r, h⟩ : ∃ r, P r))]
/-- a suite whose outcome does not hang on where the exception lies -/
def Steady (i : Nat) (s : Addr → Option Addr → Nat → SE) (c : Nat) (d : D) (env1 : En) (r : Fl × En) : Prop :=
  r.1.isEx = false ∧ ∀ (a : Addr) (od : Option Addr), (od = none → d = .non) → (s a od c (env1.set i (some (exD a od d)))).map (fun q => (q.1, q.2.set i none)) = some r
/-- try: b; except X as e: s, e's slot i; m: what of the classes is an X -/
noncomputable def qTry (i : Nat) (m : Nat → Option Bool) (b : SE) (s : Addr → Option Addr → Nat → SE) : SE := fun env => match b env with
  | some (.ex c d, env1) => (match m c with
    | some true => pick (Steady i s c d env1)
    | some false => some (.ex c d, env1)
    | none => none)
  | r => r
theorem qTry_pass {i : Nat} {m : Nat → Option Bool} {b : SE} {s : Addr → Option Addr → Nat → SE} {env env1 : En} {fl : Fl} (h : b env = some (fl, env1)) (hf : fl.isEx = false) : qTry i m b s env = some (fl, env1) := by
  unfold qTry
  rw [h]
  cases fl <;> first | rfl | cases hf
theorem qTry_caught {i : Nat} {m : Nat → Option Bool} {b : SE} {s : Addr → Option Addr → Nat → SE} {env env1 env2 : En} {c : Nat} {d : D} {fl : Fl} (h : b env = some (.ex c d, env1)) (hm : m c = some true) (hf : fl.isEx = false)
    (hs : ∀ (a : Addr) (od : Option Addr), (od = none → d = .non) → (s a od c (env1.set i (some (exD a od d)))).map (fun q => (q.1, q.2.set i none)) = some (fl, env2)) : qTry i m b s env = some (fl, env2) := by
  unfold qTry
  rw [h]
  show (match m c with
    | some true => pick (Steady i s c d env1)
    | some false => some (.ex c d, env1)
    | none => none) = _
  rw [hm]
  refine pick_of ⟨hf, hs⟩ fun r' h' => ?_
  have z := h'.2 0 (some 0) (fun e => nomatch e)
  rw [hs 0 (some 0) (fun e => nomatch e)] at z
  exact (Option.some.inj z).symm
section
variable {X : Cx} {xc : Nat → Addr} {W : WX} {np : Nat} {Γ : List Sh} {rk : Kd} {b : SE} {s : Addr → Option Addr → Nat → SE} {x n : Str} {body suite : List Stmt} {b₀ : Stmt} {npos pos pos' : Pos} {m : Nat → Option Bool}
theorem qs_try (i : Nat) (cv : Value) (hm : ∀ c v, m c = some v → PySem.W.exmOne X.K (.ref (xc c)) cv = some v) (tk : Takes X W) (hN : X.N.Nodup)
    (hbody : ∀ (W' : WX) (pn : List (Addr × Obj)) (xe : Value → Shared → Prop), Takes (X.tr pn xe) W' → PassesOwn (model X.prog X.w) X.A X.env xe → SSs (X.tr pn xe) xc W' np Γ rk body b)
    (hsuite : ∀ c, m c = some true → ∀ (a : Addr) (od : Option Addr) (oe : Obj) (pn : List (Addr × Obj)), Zc (.ref (xc c)) od oe → (∃ vs, oe.data = .fields vs) → SSs (X.suite a ((a, oe) :: pn)) xc (fun _ _ _ _ => False) np Γ rk (b₀ :: suite) (s a od c))
    (hcn : Names X x cv) (hi : X.N[i]? = some n := by rfl) (hΓ : Γ[i]? = some .fz := by rfl) (hln : X.env.kindOf n = some .local := by rfl) (hst : X.stack = X.env :: X.outer := by rfl) (hfr : X.env.frame = some X.env.locals := by rfl) :
    SS X xc W np Γ rk (.Try body [.ExceptHandler (some (.Name x npos)) (some n) (b₀ :: suite) pos'] [] [] pos) (qTry i m b s) := by
  have hB : ∀ (W' : WX) (pn : List (Addr × Obj)) (xe : Value → Shared → Prop), Takes (X.tr pn xe) W' → PassesOwn (model X.prog X.w) X.A X.env xe →
      PSs (X.tr pn xe) body (fun D σ H => ∀ (pn : List (Addr × Obj)) (xe : Value → Shared → Prop) (t1 : Takes (X.tr pn xe) W') (t2 : PassesOwn (model X.prog X.w) X.A X.env xe), Classical.choose (hbody W' pn xe t1 t2).ex D σ H) := fun W' pn xe t1 t2 =>
    ⟨fun pins s σ H D I h => (Classical.choose_spec (hbody W' pn xe t1 t2).ex).1.run pins s σ H D I (h pn xe t1 t2)⟩
  have hS : ∀ (a : Addr) (oe : Obj) (cls : Value) (d : Option Addr) (pn : List (Addr × Obj)), Zc cls d oe → (∃ vs, oe.data = .fields vs) →
      PSs (X.suite a ((a, oe) :: pn)) (b₀ :: suite) (fun D σ H => ∀ (oe : Obj) (pn : List (Addr × Obj)), Zc cls d oe → (∃ vs, oe.data = .fields vs) → ∃ (c : Nat) (hc : m c = some true) (hz : Zc (.ref (xc c)) d oe) (hf : ∃ vs, oe.data = .fields vs), Classical.choose (hsuite c hc a d oe pn hz hf).ex D σ H) := fun a oe cls d pn z1 z2 =>
    ⟨fun pins s σ H D I h => by
      obtain ⟨c, hc, hz, hf, q⟩ := h oe pn z1 z2
      exact (Classical.choose_spec (hsuite c hc a d oe pn hz hf).ex).1.run pins s σ H D I q⟩
  refine ⟨_, ps_try_as (i := i) (ts := fun a cls d D σ H => ∀ (oe : Obj) (pn : List (Addr × Obj)), Zc cls d oe → (∃ vs, oe.data = .fields vs) → ∃ (c : Nat) (hc : m c = some true) (hz : Zc (.ref (xc c)) d oe) (hf : ∃ vs, oe.data = .fields vs), Classical.choose (hsuite c hc a d oe pn hz hf).ex D σ H) hst hfr hN hi hln hcn tk hB hS, fun D σ H env fp Z fl env' E hf hQ => ?_⟩
  intro pn xe t1 t2
  have sm := (Classical.choose_spec (hbody (wAs X.K cv i (fun a cls d D σ H => ∀ (oe : Obj) (pn : List (Addr × Obj)), Zc cls d oe → (∃ vs, oe.data = .fields vs) → ∃ (c : Nat) (hc : m c = some true) (hz : Zc (.ref (xc c)) d oe) (hf : ∃ vs, oe.data = .fields vs), Classical.choose (hsuite c hc a d oe pn hz hf).ex D σ H) W D) pn xe t1 t2).ex).2
  unfold qTry at hf
  cases hb : b env with
  | none => rw [hb] at hf; cases hf
  | some r =>
    obtain ⟨fb, env1⟩ := r
    rw [hb] at hf
    refine sm D σ H env fp Z fb env1 E hb fun σ1 H1 f1 E1 x1 p1 => ?_
    have same : fb.isEx = false → some (fb, env1) = some (fl, env') → FlOk X.K xc (wAs X.K cv i (fun a cls d D σ H => ∀ (oe : Obj) (pn : List (Addr × Obj)), Zc cls d oe → (∃ vs, oe.data = .fields vs) → ∃ (c : Nat) (hc : m c = some true) (hz : Zc (.ref (xc c)) d oe) (hf : ∃ vs, oe.data = .fields vs), Classical.choose (hsuite c hc a d oe pn hz hf).ex D σ H) W D) Γ rk D H fp fb env1 σ1 H1 f1 Z := fun e2 e3 => by
      cases e3
      have q := hQ σ1 H1 f1 E1 x1 p1
      cases fl with
      | ex c d => cases e2
      | _ => exact q
    cases fb with
    | nx => exact same rfl hf
    | bk => exact same rfl hf
    | ct => exact same rfl hf
    | rt d => exact same rfl hf
    | ex c d =>
      intro cls od hx
      cases hmc : m c with
      | none =>
        have hf2 : (match m c with
          | some true => pick (Steady i s c d env1)
          | some false => some (Fl.ex c d, env1)
          | none => none) = some (fl, env') := hf
        rw [hmc] at hf2
        cases hf2
      | some v =>
        have hf2 : (match m c with
          | some true => pick (Steady i s c d env1)
          | some false => some (Fl.ex c d, env1)
          | none => none) = some (fl, env') := hf
        rw [hmc] at hf2
        have ecls : cls = .ref (xc c) := hx.1
        subst ecls
        refine ⟨v, hm c v hmc, fun hv a ha => ?_, fun hv => ?_⟩
        · subst hv
          intro oe pn2 hz hfl
          refine ⟨c, hmc, hz, hfl, ?_⟩
          have hsp := pick_ok (show pick (Steady i s c d env1) = some (fl, env') from hf2)
          · obtain ⟨nx, hall⟩ := hsp
            have hod : od = none → d = .non := fun e => by
              rcases hx.2 with ⟨h1, _⟩ | ⟨dx, w, h1, _⟩
              · exact h1
              · rw [e] at h1; cases h1
            obtain ⟨⟨fl2, env2⟩, q1, q2⟩ := Option.map_eq_some_iff.mp (hall a od hod)
            have q3 : fl2 = fl ∧ env2.set i none = env' := by cases q2; exact ⟨rfl, rfl⟩
            obtain ⟨q3, q4⟩ := q3
            subst q3 q4
            have rep : Rep X.K (hid (f1 ++ Z) H1) (.ref a) (exD a od d) := by
              rcases hx.2 with ⟨h1, h2⟩ | ⟨dx, w, h1, h2, h3⟩
              · rw [h2]; exact .exn
              · rw [h1]; exact .exc h2 h3
            have E2 := E1.setF hΓ rep
            refine (Classical.choose_spec (hsuite c hmc a od oe pn2 hz hfl).ex).2 _ _ H1 _ f1 Z fl2 env2 E2 q1 fun σ2 H2 f2 E3 x2 p2 => ?_
            have E4 := E3.setN (x := none) hΓ
            have pr : Prot np Γ σ (σ2.set i none) := fun j sh hj hg hn => by
              have ne : i ≠ j := fun z => hn (by subst z; rw [hΓ] at hg; exact (Option.some.inj hg).symm)
              have a1 := p1 j sh hj hg hn
              have a2 := p2 j sh hj hg hn
              rw [List.getElem?_set_ne ne, a2, List.getElem?_set_ne ne, a1]
            have q := hQ (σ2.set i none) H2 f2 E4 (x1.trans x2) pr
            cases fl2 with
            | ex c2 d2 => cases nx
            | rt d2 =>
              intro v hv
              refine q v ?_
              have hv2 := hv.back x1
              cases rk with
              | nw sh =>
                obtain ⟨fn, z1, z2, z3, z4⟩ := hv2
                exact ⟨fn, z1, z2, z3, z4.setN (x := none) hΓ⟩
              | _ => exact hv2
            | _ => exact q
        · subst hv
          cases hf2
          exact hQ σ1 H1 f1 E1 x1 p1 _ _ hx
end
end Py

set_option Elab.async false
set_option linter.all false
set_option maxRecDepth 100000
set_option maxHeartbeats 4000000
/-! Own layer: error classes read off the head. -/
namespace Py
open PySem PySem.Spec PyProof.Rows L2
/-- the class x with an __init__ of its own -/
def iniB (K : PySem.W.Frag) (x : Str) : Bool := exB K (He.ga K x) && (decide (PySem.W.findIn K (.ref (He.ga K x)) "__init__" = some (some (.ref (He.ma K (He.ga K x) "__init__")))) && decide (PySem.W.typeIn K (.ref (He.ma K (He.ga K x) "__init__")) = some (.type "function")))
theorem iniB_ok {P : Program} {w : World} {K : PySem.W.Frag} {mg : Str → Option Value} {base : Heap} {x qual : Str} {params : Arguments} {body : List Stmt} {scope : Scope} {fd : FuncData} {m : Str} (h : iniB K x = true) (hm : mg x = some (.ref (He.ga K x)))
    (F : FunD K "__init__" qual params body scope [] [] (He.fAd K (x, some "__init__")) fd) (S : FnScope ["self", "at"] ["self", "at"] scope) (hb : Binds K fd ["self", "at"] [])
    (hv : Ex K (He.ga K x) → ∀ (cdv : Value) (A : Around) (outer : List Env) (s : Shared) (H : Hp) (E : XK), PSs (cxOf (L2.CX P w) P w K mg base ["self", "at"] qual scope (He.fAd K (x, some "__init__")) cdv A outer s H E) body
      (tSeq (tDrop (tVeI K (tCons (tVar 0) (tCons (tC (.str m)) tNil)))) (tSeq (tOst K "at" (tVar 0) (tVar 1)) tNext))) : Rz P w K mg base x (He.ga K x) := by
  obtain ⟨h1, h⟩ := Bool.and_eq_true_iff.mp h
  obtain ⟨h2, h3⟩ := Bool.and_eq_true_iff.mp h
  have T := exB_ok h1
  exact ⟨hm, T, _, fd, of_decide_eq_true h2, of_decide_eq_true h3, init_ok F S T (hv T), hb⟩
def exmB (K : PySem.W.Frag) (x y : Str) (b : Bool) : Bool := decide (PySem.W.exmOne K (.ref (He.ga K x)) (.ref (He.ga K y)) = some b)
def kitC (K : PySem.W.Frag) (x y : Str) (b : Bool) : Bool := decide (PySem.W.kitOne K (.ref (He.ga K x)) (.ref (He.ga K y)) = some b)
def kitT (K : PySem.W.Frag) (x : Str) (y : String) (b : Bool) : Bool := decide (PySem.W.kitOne K (.ref (He.ga K x)) (.type y) = some b)
theorem kitA_nil {K : PySem.W.Frag} {t : Value} : PySem.W.kitAny K t [] = some false := rfl
theorem kitA_no {K : PySem.W.Frag} {t c : Value} {cs : List Value} {b : Bool} (h : PySem.W.kitOne K t c = some false) (r : PySem.W.kitAny K t cs = some b) : PySem.W.kitAny K t (c :: cs) = some b := by
  unfold PySem.W.kitAny
  rw [h]
  exact r
theorem kitA_yes {K : PySem.W.Frag} {t c : Value} {cs : List Value} (h : PySem.W.kitOne K t c = some true) : PySem.W.kitAny K t (c :: cs) = some true := by
  unfold PySem.W.kitAny
  rw [h]
/-- a list of facts -/
theorem alls {bs : List Bool} (h : (bs.all id) = true) (i : Nat) {b : Bool} (hi : bs[i]? = some b) : b = true := List.all_eq_true.mp h b (List.mem_of_getElem? hi)
/-! ### the head, and the interpreter's own statics beside it -/
def frY (g : Addr → Option Obj) (n : Nat) : PySem.W.Frag := He.frT g (He.asD g n) ++ He.frG g [cStatics]
theorem frY_in {h : Heap} {n : Nat} : (frY h.get? n).In h := fun a o e => by
  have z : ((He.frT h.get? (He.asD h.get? n)).lookup a).or ((He.frG h.get? [cStatics]).lookup a) = some o := by
    rw [← List.lookup_append]
    exact e
  cases q : (He.frT h.get? (He.asD h.get? n)).lookup a with
  | some u =>
    rw [q] at z
    cases z
    exact He.frT_in a _ q
  | none =>
    rw [q] at z
    exact He.frG_in a o z
def obsY (n : Nat) (fa : List He.Fa) (fn : List He.DefD) (ts : List He.Tab) (ex : PySem.W.Frag → Bool) (g : Addr → Option Obj) : He.AlX := (He.obsT fa fn ts (frY g n), ex (frY g n))
def hookY (n : Nat) (fa : List He.Fa) (fn : List He.DefD) (ts : List He.Tab) (ex : PySem.W.Frag → Bool) : PySem.W.Hook where
  α := He.AlX
  obs := fun s => obsY n fa fn ts ex s.heap.get?
  val := fun w => He.valX fn ts w
  says := fun w h => ∃ K : PySem.W.Frag, K.In h ∧ He.SaysX fa fn ts [] ex w h K
  of := fun w h e => ⟨_, frY_in, ⟨congrArg (fun z : He.AlX => z.1) e, congrArg (fun z : He.AlX => z.2) e, fun p hp => (nomatch hp), fun p hp => (nomatch hp), fun p hp => (nomatch hp)⟩⟩
  keeps := fun _ _ _ ⟨K, hK, c⟩ k => ⟨K, PySem.W.Frag.In.keeps hK k, ⟨c.t, c.more, c.hd, c.out, fun p hp => (nomatch hp)⟩⟩
theorem obsY_eq {n : Nat} {fa : List He.Fa} {fn : List He.DefD} {ts : List He.Tab} {ex : PySem.W.Frag → Bool} {g : Addr → Option Obj} {s : Shared} (h : ∀ a, g a = s.heap.get? a) : obsY n fa fn ts ex g = (hookY n fa fn ts ex).obs s := by
  have e : g = s.heap.get? := funext h
  subst e
  rfl
theorem nnx_raise {c : Nat} {f : En → Option D} : Nnx (qRaise c f) := fun ds e h => by
  obtain ⟨_, _, z⟩ := Option.map_eq_some_iff.mp h
  cases z
theorem nbk_raise {c : Nat} {f : En → Option D} : Nbk (qRaise c f) := fun ds e h => by
  obtain ⟨_, _, z⟩ := Option.map_eq_some_iff.mp h
  cases z
end Py

set_option Elab.async false
set_option linter.all false
set_option maxRecDepth 100000
set_option maxHeartbeats 4000000
/-! Own layer: t.index(x) of a tuple of texts; x.extend(e). -/
namespace Py
open PySem PySem.Spec PyProof.Rows L2 PySem.W
section
variable {X : Cx} {xc : Nat → Addr} {W : WX} {np : Nat} {Γ : List Sh} {rk : Kd} {a b e : Expr} {fa fb f : En → Option D} {m : IE} {ka kb k : Kd} {pos p2 p3 p4 : Pos}
/-! ### tuple.index -/
def strs? : List D → Option (List Str)
  | [] => some []
  | .str s :: ds => (strs? ds).map (s :: ·)
  | _ => none
theorem strs?_ok : ∀ {ds : List D} {ss : List Str}, strs? ds = some ss → ds = ss.map .str
  | [], ss, h => by cases h; rfl
  | d :: ds, ss, h => by
    cases d with
    | str s =>
      obtain ⟨ts, h1, rfl⟩ := Option.map_eq_some_iff.mp h
      rw [strs?_ok h1]
      rfl
    | _ => cases h
theorem strs?_map : ∀ (ss : List Str), strs? (ss.map .str) = some ss
  | [] => rfl
  | s :: ss => by
    show (strs? (ss.map .str)).map (s :: ·) = _
    rw [strs?_map ss]
    rfl
theorem Reps.strs {K : PySem.W.Frag} {G : Hp} : ∀ {ss : List Str} {vs : List V}, Reps K G vs (ss.map .str) → vs = ss.map V.str
  | [], _, h => by cases h; rfl
  | s :: ss, _, h => by
    cases h with
    | cons h r => cases h; rw [Reps.strs r]; rfl
def ixtD (x y : D) : Option D := match x, y with
  | .tup ds, .str s => (strs? ds).bind fun ss => if s ∈ ss then some (.int (ss.idxOf s : Nat)) else none
  | _, _ => none
def rIdxT (K : PySem.W.Frag) : V → List V → Hp → VK → Prop := fun x xs H Q => ∃ (a : Addr) (ss : List Str) (s : Str), x = V.ref a ∧ xs = [.str s] ∧ SqT K H a (ss.map V.str) ∧ s ∈ ss ∧ Q (.int (ss.idxOf s : Nat)) H
theorem mt_idxT : MtR X "tuple.index" (rIdxT X.K) := by
  intro pins s σ H x xs v us Q I rx rxs h
  obtain ⟨a, ss, t, rfl, rfl, hs, ht, q⟩ := h
  cases rx
  obtain ⟨u, rfl, ru⟩ := Vals.one rxs
  obtain ⟨tk, rfl⟩ := ru
  obtain ⟨its, rv, hl, hlen⟩ := I.tuple hs
  have hl' : s.heap.IsTuple a its.toArray := hl
  refine PySem.SeqAt.tuple_index_strs hl' rv.strs ht ?_
  exact ⟨.int _, H, I.tok _, ⟨_, rfl⟩, q⟩
/-- the name x of the module is a plain tuple -/
def CtT (mg : Str → Option Value) (K : PySem.W.Frag) (x : Str) : Prop := ∃ a o, mg x = some (.ref a) ∧ K.lookup a = some o ∧ o.cls = .type "tuple" ∧ o.dict = none
def ctTB (K : PySem.W.Frag) (x : Str) : Bool := match PySem.W.nsIn K mainGlobals x with
  | some (some (.ref a)) => (match K.lookup a with
    | some o => decide (o.cls = .type "tuple") && decide (o.dict = none)
    | none => false)
  | _ => false
theorem ctTB_ok {K : PySem.W.Frag} {h : Heap} {mg : Str → Option Value} (X : K.In h) (G : h.Ns mainGlobals mg) {x : Str} (c : ctTB K x = true) : CtT mg K x := by
  unfold ctTB at c
  split at c
  · rename_i a e
    split at c
    · rename_i o ho
      obtain ⟨c1, c2⟩ := Bool.and_eq_true_iff.mp c
      exact ⟨a, o, PySem.W.mg_of X G e, ho, of_decide_eq_true c1, of_decide_eq_true c2⟩
    · cases c
  · cases c
def ctTsB (K : PySem.W.Frag) (cs : List Str) : Bool := cs.all fun q => ctTB K q
theorem ctTsB_ok {K : PySem.W.Frag} {h : Heap} {mg : Str → Option Value} (X : K.In h) (G : h.Ns mainGlobals mg) {cs : List Str} (c : ctTsB K cs = true) (i : Nat) {x : Str} (hi : cs[i]? = some x := by rfl) : CtT mg K x :=
  ctTB_ok X G (List.all_eq_true.mp c _ (List.mem_of_getElem? hi))
theorem s_indexT {x : Str} {dc : D} {apos cpos : Pos} (h : Ct X.mg X.K x dc) (ht : CtT X.mg X.K x) (hb : SP X Γ b fb kb) (hg : Gl X x := by rfl) (hdb : (x == ("__debug__" : Str)) = false := by decide) (he : starEach [b] X.env = (false, eval b X.env) :: starEach [] X.env := by rfl)
    (mk : ∀ (to : TE) (t : TA), PE X (.Name x p2) to → PA X [b] t → PE X (.Call (.Attribute (.Name x p2) "index" apos) [b] [] cpos) (tBM X.K "tuple" (rIdxT X.K) to t) := by intro to t ho ha; exact L2.pe_bm PySem.F.plainAttrs_tuple PySem.F.slot_tuple_index PySem.F.type_tuple_index mt_idxT ho ha) :
    SP X Γ (.Call (.Attribute (.Name x p2) "index" apos) [b] [] cpos) (b2 (c0 dc) fb ixtD) .u := by
  obtain ⟨u, v, m1, r1, r2⟩ := h
  obtain ⟨a, o, m2, k1, k2, k3⟩ := ht
  cases m1.symm.trans m2
  obtain ⟨tb, pb, qb⟩ := hb.ex
  refine ⟨_, mk _ _ (pe_glob hg m1 r1 hdb) (pa_cons pb pa_nil he), fun σ H Q env fp Z d E hf hQ => ?_⟩
  obtain ⟨x, y, hx, hy, hd⟩ := bind2 hf
  cases hx
  cases dc with
  | tup ds =>
    cases y with
    | str s =>
      obtain ⟨ss, hs, hd⟩ := Option.bind_eq_some_iff.mp hd
      split at hd
      · rename_i c
        cases hd
        have e := strs?_ok hs
        subst e
        have rr : HK X.K .u H fp Z H v (.tup (ss.map .str)) := r2 _
        obtain ⟨p, us, rfl, l1, r3⟩ := rr.tup
        have e1 := r3.strs
        subst e1
        cases (show Value.ref a = Value.ref p from r1)
        refine ⟨.inr (.inl ⟨rfl, o, k1, k2, k3⟩), qb σ H _ env fp Z _ E hy fun w H2 s2 h2 => ?_⟩
        have := h2.rep
        cases this
        exact ⟨a, ss, s, rfl, rfl, s2.sqT l1, c, hQ _ H2 s2 (.int _)⟩
      · cases hd
    | _ => cases hd
  | _ => cases hd
/-! ### x.extend(e), e a new list -/
def exL (d : D) (xs : List D) : Option (List D) := match d with
  | .lst ys => if xs.length + ys.length ≤ sizeLine then some (xs ++ ys) else none
  | _ => none
def qEx (i : Nat) (m : IE) : SE := fun env => if isL i env = true then qDo m (fun d => onL i (exL d)) env else none
theorem qs_extend (i : Nat) {x : Str} (he : SI X xc W Γ e m (.nw (.li .fz))) (hN : X.N[i]? = some x := by rfl) (hv : Vis X.env.scope x := by first | exact Or.inl rfl | exact Or.inr (Or.inl rfl) | exact Or.inr (Or.inr rfl)) (hs : Γ[i]? = some (.li .fz) := by rfl) (hd : (x == ("__debug__" : Str)) = false := by decide) (hcd : (x == ("__classdict__" : Str)) = false := by decide)
    (hsw : swapsWith (.Call (.Attribute (.Name x p2) "extend" p3) [e] [] p4) none pos.line X.env = pure false := by rfl) (hse : starEach [e] X.env = (false, eval e X.env) :: starEach [] X.env := by rfl)
    (mk : ∀ (to : TE) (t : TA), PE X (.Name x p2) to → PA X [e] t → PE X (.Call (.Attribute (.Name x p2) "extend" p3) [e] [] p4) (tBM X.K "list" rExtend to t) := by intro to t ho ha; exact L2.pe_bm PySem.F.plainAttrs_list PySem.F.slot_list_extend PySem.F.type_list_extend L2.mt_extend ho ha) :
    SS X xc W np Γ rk (.Expr (.Call (.Attribute (.Name x p2) "extend" p3) [e] [] p4) pos) (qEx i m) := by
  obtain ⟨t, p, q⟩ := he.ex
  refine ⟨_, ps_expr (mk _ _ (pe_var hN hv hd hcd) (pa_cons p pa_nil hse)) hsw, fun D σ H env fp Z fl env' E hf hQ => ?_⟩
  unfold qEx at hf
  split at hf
  · rename_i hl
    obtain ⟨xs0, hx0⟩ := isL_ok hl
    obtain ⟨a, vs, hσ, ha, r, ia, _⟩ := E.lset hs hx0
    refine ⟨_, hσ, .inl ⟨rfl, vs, .inl (.inl ha)⟩, ?_⟩
    unfold qDo at hf
    split at hf
    · rename_i d e1 h1
      obtain ⟨e2, h2, z⟩ := Option.map_eq_some_iff.mp hf
      cases z
      obtain ⟨xs, ys, hx, hy, rfl⟩ := onL_ok h2
      refine q σ H _ env fp Z _ e1 E h1 fun H1 f1 E1 x1 v hv => ?_
      obtain ⟨a', vs', hσ', ha', r', ia', cont⟩ := E1.lset hs hx
      rw [hσ] at hσ'; cases hσ'
      obtain ⟨fn, _, _, tr, _⟩ := hv
      obtain ⟨bb, zv, zs, rfl, rfl, rfl, hb, rz⟩ := tr.liFz
      simp only [exL] at hy
      split at hy
      · rename_i hlen
        cases hy
        have rz' : Reps X.K (hid (f1 ++ Z) H1) zv zs := rz.mono (hid_less fun b hb => List.mem_append_right _ hb)
        obtain ⟨fp', E2, x2, _⟩ := cont (vs' ++ zv) (xs ++ zs) (r'.append rz')
        exact ⟨_, bb, _, zv, rfl, rfl, ha', hb, by rw [r'.length, rz'.length]; exact hlen, hQ σ _ fp' E2 (x1.trans x2) Prot.refl⟩
      · cases hy
    · rename_i cc dd e1 h1
      cases hf
      exact q σ H _ env fp Z _ env' E h1 fun H1 f1 E1 x1 cls od hx => hQ σ H1 f1 E1 x1 Prot.refl cls od hx
    · cases hf
  · cases hf
theorem ex_len {xs ys : List D} (h : xs.length + ys.length ≤ 16777216) : exL (.lst ys) xs = some (xs ++ ys) := by
  unfold exL
  exact if_pos (by rw [sizeLine_eq]; exact h)
end
end Py

set_option Elab.async false
set_option linter.all false
set_option maxRecDepth 100000
set_option maxHeartbeats 4000000
/-! Own layer: places within what is owned. -/
namespace Py
open PySem PySem.Spec PyProof.Rows L2
section
variable {K : PySem.W.Frag} {Γ : List Sh} {env : En} {σ : L2.St} {H : Hp} {fp Z : List Addr}
theorem ext_at {H' : Hp} {f2 fc rest : List Addr} (e : Ext H f2 H' fc) (in2 : ∀ b ∈ f2, b ∈ fp) (hr : ∀ b ∈ rest, b ∈ fp ∧ b ∉ f2) (W : List Addr) (hW : ∀ b ∈ W, H b = none ∨ b ∈ fp) : Ext H fp H' (fc ++ (W ++ rest)) := by
  refine ⟨fun b o h n => e.keep b o h fun z => n (in2 b z), fun b hb => ?_, fun b hb n => ?_⟩
  · rcases List.mem_append.mp hb with z | z
    · exact (e.own b z).imp_left (in2 b)
    · rcases List.mem_append.mp z with z | z
      · exact (hW b z).symm
      · exact .inl (hr b z).1
  · by_cases z : b ∈ f2
    · exact e.there b z n
    · cases q : H b with
      | none => exact absurd q n
      | some o => rw [e.keep b o q z]; simp
/-- a place: v stands there for d, what lies there may be changed -/
def At (K : PySem.W.Frag) (Γ : List Sh) (pt : D → En → Option En) (s : Sh) (env : En) (σ : L2.St) (H : Hp) (fp Z : List Addr) (v : V) (d : D) : Prop :=
  ∃ (f2 rest : List Addr), Tr K H (hid (fp ++ Z) H) s v d f2 ∧ f2.Nodup ∧ (∀ b ∈ f2, b ∈ fp) ∧ (∀ b ∈ rest, b ∈ fp ∧ b ∉ f2) ∧ (∀ b ∈ fp, b ∈ f2 ∨ b ∈ rest) ∧
    ∀ (H' : Hp) (fc Y W Z0 : List Addr) (d' : D) (env' : En), Z = W ++ Z0 → (∀ b ∈ W, b ∉ Y ++ Z0) → (∀ b ∈ Y, (H b = none ∨ b ∈ f2) ∧ b ∉ fc ∧ ∃ o, H' b = some o ∧ NT o) → Ext H f2 H' fc →
      (∃ fn, Tr K H' (hid (fc ++ (W ++ (rest ++ (Y ++ Z0)))) H') s v d' fn ∧ fn.Nodup ∧ ∀ b ∈ fn, b ∈ fc ∨ b ∈ W) → (∀ b ∈ fc, ∃ o, H' b = some o ∧ NT o) → pt d' env = some env' →
      EOk K Γ env' σ H' (fc ++ (W ++ rest)) (Y ++ Z0)
def pv (i : Nat) (d : D) (env : En) : Option En := some (env.set i (some d))
theorem At.var (E : EOk K Γ env σ H fp Z) {i : Nat} {s : Sh} {d : D} (hs : Γ[i]? = some s) (hd : env[i]? = some (some d)) : ∃ v, σ[i]? = some (some v) ∧ At K Γ (pv i) s env σ H fp Z v d := by
  obtain ⟨fq, t, nq, iq⟩ := E.ex
  obtain ⟨f1, f2, f3, rfl, a, b⟩ := t.put hs
  obtain ⟨v, hv, tv⟩ := a d hd
  obtain ⟨n1, n23, d12⟩ := List.nodup_append.mp nq
  obtain ⟨n2, n3, d23⟩ := List.nodup_append.mp n23
  have in2 : ∀ b ∈ f2, b ∈ fp := fun b hb => iq b (List.mem_append_right _ (List.mem_append_left _ hb))
  have out1 : ∀ b ∈ f1, b ∉ f2 := fun b hb z => d12 b hb b (List.mem_append_left _ z) rfl
  have out3 : ∀ b ∈ f3, b ∉ f2 := fun b hb z => d23 b z b hb rfl
  have hrest : ∀ b ∈ fp.filter (fun b => decide (b ∉ f2)), b ∈ fp ∧ b ∉ f2 := fun b hb => ⟨(List.mem_filter.mp hb).1, of_decide_eq_true (List.mem_filter.mp hb).2⟩
  refine ⟨v, hv, f2, fp.filter fun b => decide (b ∉ f2), tv, n2, in2, hrest, fun b hb => ?_, fun H' fc Y W Z0 d' env' eZ hW hY e ⟨fn, tn, nn, inn⟩ ok hp => ?_⟩
  · by_cases z : b ∈ f2
    · exact .inl z
    · exact .inr (List.mem_filter.mpr ⟨hb, decide_eq_true z⟩)
  subst eZ
  cases hp
  have there : ∀ b ∈ fp ++ (W ++ Z0), ∃ o, H b = some o := fun b hb => let ⟨o, h, _⟩ := E.ok b hb; ⟨o, h⟩
  have inW : ∀ b ∈ W, b ∈ fp ++ (W ++ Z0) := fun b hb => List.mem_append_right _ (List.mem_append_left _ hb)
  have sG : Sub (hid (fp ++ (W ++ Z0)) H) (hid ((fc ++ (W ++ fp.filter fun b => decide (b ∉ f2))) ++ (Y ++ Z0)) H') := fun b o h => by
    obtain ⟨h1, h2⟩ := hid_some h
    have nf : b ∉ f2 := fun z => h1 (List.mem_append_left _ (in2 b z))
    rw [hid_of]
    · exact e.keep b o h2 nf
    · intro z
      rcases List.mem_append.mp z with z | z
      · rcases List.mem_append.mp z with z | z
        · rcases e.own b z with q | q
          · exact nf q
          · rw [h2] at q; cases q
        · rcases List.mem_append.mp z with z | z
          · exact h1 (inW b z)
          · exact h1 (List.mem_append_left _ (hrest b z).1)
      · rcases List.mem_append.mp z with z | z
        · rcases (hY b z).1 with q | q
          · rw [q] at h2; cases h2
          · exact nf q
        · exact h1 (List.mem_append_right _ (List.mem_append_right _ z))
  have keep13 : ∀ b ∈ f1 ++ f3, ∀ o, H b = some o → H' b = some o := fun b hb o h => e.keep b o h ((List.mem_append.mp hb).elim (out1 b) (out3 b))
  obtain ⟨_, _, b3⟩ := b H' _ sG keep13
  have tn' : Tr K H' (hid ((fc ++ (W ++ fp.filter fun b => decide (b ∉ f2))) ++ (Y ++ Z0)) H') s v d' fn := by
    rw [List.append_assoc, List.append_assoc]
    exact tn
  have infp : ∀ b ∈ f1 ++ f3, b ∈ fp := fun b hb => iq b ((List.mem_append.mp hb).elim (fun w => List.mem_append_left _ w) fun w => List.mem_append_right _ (List.mem_append_right _ w))
  have old : ∀ b ∈ f1 ++ f3, b ∉ fn := fun b hb z => by
    rcases inn b z with z | z
    · rcases e.own b z with q | q
      · exact ((List.mem_append.mp hb).elim (out1 b) (out3 b)) q
      · obtain ⟨o, h⟩ := there b (List.mem_append_left _ (infp b hb))
        rw [q] at h; cases h
    · exact E.dj b (infp b hb) (List.mem_append_left _ z)
  refine ⟨⟨f1 ++ (fn ++ f3), (b3 v d' fn tn').2 hv, ?_, fun b hb => ?_⟩, fun b hb w => ?_, fun b hb => ?_⟩
  · refine List.nodup_append.mpr ⟨n1, List.nodup_append.mpr ⟨nn, n3, fun x hx y hy q => ?_⟩, fun x hx y hy q => ?_⟩
    · subst q; exact old x (List.mem_append_right _ hy) hx
    · subst q
      rcases List.mem_append.mp hy with z | z
      · exact old x (List.mem_append_left _ hx) z
      · exact d12 x hx x (List.mem_append_right _ z) rfl
  · rcases List.mem_append.mp hb with z | z
    · exact List.mem_append_right _ (List.mem_append_right _ (List.mem_filter.mpr ⟨iq b (List.mem_append_left _ z), decide_eq_true (out1 b z)⟩))
    · rcases List.mem_append.mp z with z | z
      · rcases inn b z with z | z
        · exact List.mem_append_left _ z
        · exact List.mem_append_right _ (List.mem_append_left _ z)
      · exact List.mem_append_right _ (List.mem_append_right _ (List.mem_filter.mpr ⟨iq b (List.mem_append_right _ (List.mem_append_right _ z)), decide_eq_true (out3 b z)⟩))
  · rcases List.mem_append.mp hb with z | z
    · rcases List.mem_append.mp w with w | w
      · exact (hY b w).2.1 z
      · rcases e.own b z with q | q
        · exact E.dj b (in2 b q) (List.mem_append_right _ w)
        · obtain ⟨o, h⟩ := there b (List.mem_append_right _ (List.mem_append_right _ w))
          rw [q] at h; cases h
    · rcases List.mem_append.mp z with z | z
      · exact hW b z w
      · rcases List.mem_append.mp w with w | w
        · obtain ⟨o, h⟩ := there b (List.mem_append_left _ (hrest b z).1)
          rcases (hY b w).1 with q | q
          · rw [q] at h; cases h
          · exact (hrest b z).2 q
        · exact E.dj b (hrest b z).1 (List.mem_append_right _ w)
  · rcases List.mem_append.mp hb with z | z
    · rcases List.mem_append.mp z with z | z
      · exact ok b z
      · rcases List.mem_append.mp z with z | z
        · obtain ⟨o, h, p⟩ := E.ok b (inW b z)
          exact ⟨o, e.keep b o h fun w => E.dj b (in2 b w) (List.mem_append_left _ z), p⟩
        · obtain ⟨o, h, p⟩ := E.ok b (List.mem_append_left _ (hrest b z).1)
          exact ⟨o, e.keep b o h (hrest b z).2, p⟩
    · rcases List.mem_append.mp z with z | z
      · exact (hY b z).2.2
      · obtain ⟨o, h, p⟩ := E.ok b (List.mem_append_right _ (List.mem_append_right _ z))
        exact ⟨o, e.keep b o h fun w => E.dj b (in2 b w) (List.mem_append_right _ z), p⟩
theorem At.mono {pt : D → En → Option En} {s : Sh} {v : V} {d : D} {H2 : Hp} (A : At K Γ pt s env σ H fp Z v d) (sb : Sub H H2) : At K Γ pt s env σ H2 fp Z v d := by
  obtain ⟨f2, rest, t, n2, in2, hr, cv, cont⟩ := A
  refine ⟨f2, rest, t.mono (hid_mono sb) (fun b _ o h => sb b o h), n2, in2, hr, cv, fun H' fc Y W Z0 d' env' eZ hW hY e tn ok hp => cont H' fc Y W Z0 d' env' eZ hW (fun b hb => ?_) ((Ext.same sb).trans e) tn ok hp⟩
  obtain ⟨h1, h2⟩ := hY b hb
  refine ⟨h1.imp_left fun z => ?_, h2⟩
  cases q : H b with
  | none => rfl
  | some o => rw [sb b o q] at z; cases z
/-- a tree within a tree -/
def Dec (K : PySem.W.Frag) (H : Hp) (s : Sh) (v : V) (d : D) (s' : Sh) (v' : V) (d' : D) (w : D → Option D) : Prop :=
  ∀ (G : Hp) (f0 : List Addr), Tr K H G s v d f0 → f0.Nodup → ∃ (fo f2 : List Addr), (∀ b, b ∈ f0 ↔ b ∈ fo ∨ b ∈ f2) ∧ (∀ b ∈ f2, b ∉ fo) ∧ f2.Nodup ∧ Tr K H G s' v' d' f2 ∧
    ∀ (H' G' : Hp) (fn : List Addr) (d'' e : D), Sub G G' → (∀ b ∈ fo, ∀ o, H b = some o → H' b = some o) → Tr K H' G' s' v' d'' fn → fn.Nodup → (∀ b ∈ fn, b ∉ fo) → w d'' = some e → ∃ (fq : List Addr), Tr K H' G' s v e fq ∧ fq.Nodup ∧ ∀ b, b ∈ fq ↔ b ∈ fo ∨ b ∈ fn
def pw (w : En → D → Option D) (pt : D → En → Option En) (d : D) (env : En) : Option En := (w env d).bind fun e => pt e env
theorem At.sub {pt : D → En → Option En} {s s' : Sh} {v v' : V} {d d' : D} {w : En → D → Option D} (A : At K Γ pt s env σ H fp Z v d) (ok0 : ∀ b ∈ fp ++ Z, ∃ o, H b = some o ∧ NT o) (dj0 : ∀ b ∈ fp, b ∉ Z) (dec : Dec K H s v d s' v' d' (w env)) : At K Γ (pw w pt) s' env σ H fp Z v' d' := by
  obtain ⟨f2, rest, t, n2, in2, hr, cv, cont⟩ := A
  obtain ⟨fo, g2, iff, dj, ng, tg, re⟩ := dec _ f2 t n2
  have go : ∀ b ∈ fo, b ∈ f2 := fun b hb => (iff b).mpr (.inl hb)
  have gg : ∀ b ∈ g2, b ∈ f2 := fun b hb => (iff b).mpr (.inr hb)
  have fog : ∀ b ∈ fo, b ∉ g2 := fun b hb z => dj b z hb
  refine ⟨g2, fo ++ rest, tg, ng, fun b hb => in2 b (gg b hb), fun b hb => ?_, fun b hb => ?_, fun H' fc Y W Z0 d'' env' eZ hW hY e ⟨fn, tn, nn, inn⟩ ok hp => ?_⟩
  · rcases List.mem_append.mp hb with z | z
    · exact ⟨in2 b (go b z), fog b z⟩
    · exact ⟨(hr b z).1, fun q => (hr b z).2 (gg b q)⟩
  · rcases cv b hb with z | z
    · rcases (iff b).mp z with z | z
      · exact .inr (List.mem_append_left _ z)
      · exact .inl z
    · exact .inr (List.mem_append_right _ z)
  subst eZ
  obtain ⟨e0, h0, hp⟩ := Option.bind_eq_some_iff.mp hp
  have some2 : ∀ b ∈ f2, ∃ o, H b = some o := fun b hb => let ⟨o, h, _⟩ := t.there b hb; ⟨o, h⟩
  have foc : ∀ b ∈ fo, b ∉ fc := fun b hb z => by
    rcases e.own b z with q | q
    · exact fog b hb q
    · obtain ⟨o, h⟩ := some2 b (go b hb)
      rw [q] at h; cases h
  have sG : Sub (hid (fp ++ (W ++ Z0)) H) (hid (fc ++ (W ++ ((fo ++ rest) ++ (Y ++ Z0)))) H') := fun b o h => by
    obtain ⟨h1, h2⟩ := hid_some h
    have nf : b ∉ f2 := fun z => h1 (List.mem_append_left _ (in2 b z))
    rw [hid_of]
    · exact e.keep b o h2 fun z => nf (gg b z)
    · intro z
      rcases List.mem_append.mp z with z | z
      · rcases e.own b z with q | q
        · exact nf (gg b q)
        · rw [h2] at q; cases q
      · rcases List.mem_append.mp z with z | z
        · exact h1 (List.mem_append_right _ (List.mem_append_left _ z))
        · rcases List.mem_append.mp z with z | z
          · rcases List.mem_append.mp z with z | z
            · exact nf (go b z)
            · exact h1 (List.mem_append_left _ (hr b z).1)
          · rcases List.mem_append.mp z with z | z
            · rcases (hY b z).1 with q | q
              · rw [q] at h2; cases h2
              · exact nf (gg b q)
            · exact h1 (List.mem_append_right _ (List.mem_append_right _ z))
  have fno : ∀ b ∈ fn, b ∉ fo := fun b hb z => by
    rcases inn b hb with q | q
    · exact foc b z q
    · exact dj0 b (in2 b (go b z)) (List.mem_append_left _ q)
  obtain ⟨fq, tq, nq, iq⟩ := re H' _ fn d'' e0 sG (fun b hb o h => e.keep b o h (fog b hb)) tn nn fno h0
  have z := cont H' (fc ++ fo) Y W Z0 e0 env' rfl hW (fun b hb => ?_) ⟨fun b o h n => e.keep b o h fun z => n (gg b z), fun b hb => ?_, fun b hb n => ?_⟩ ⟨fq, tq.mono (hid_less fun b hb => ?_) (fun _ _ _ h => h), nq, fun b hb => ?_⟩ (fun b hb => ?_) hp
  · have e1 : fc ++ fo ++ (W ++ rest) = fc ++ (fo ++ (W ++ rest)) := List.append_assoc _ _ _
    obtain ⟨⟨fz, tz, nz, iz⟩, djz, okz⟩ := z
    have perm : ∀ b, b ∈ fc ++ fo ++ (W ++ rest) ↔ b ∈ fc ++ (W ++ (fo ++ rest)) := fun b => by
      simp only [List.mem_append]
      constructor
      · rintro ((h | h) | (h | h))
        · exact .inl h
        · exact .inr (.inr (.inl h))
        · exact .inr (.inl h)
        · exact .inr (.inr (.inr h))
      · rintro (h | (h | (h | h)))
        · exact .inl (.inl h)
        · exact .inr (.inl h)
        · exact .inl (.inr h)
        · exact .inr (.inr h)
    refine ⟨⟨fz, tz.mono (hid_less fun b hb => ?_) (fun _ _ _ h => h), nz, fun b hb => (perm b).mp (iz b hb)⟩, fun b hb => djz b ((perm b).mpr hb), fun b hb => okz b ?_⟩
    · rcases List.mem_append.mp hb with q | q
      · exact List.mem_append_left _ ((perm b).mpr q)
      · exact List.mem_append_right _ q
    · rcases List.mem_append.mp hb with q | q
      · exact List.mem_append_left _ ((perm b).mpr q)
      · exact List.mem_append_right _ q
  · obtain ⟨h1, h2, h3⟩ := hY b hb
    refine ⟨h1.imp_right (gg b), fun q => ?_, h3⟩
    rcases List.mem_append.mp q with q | q
    · exact h2 q
    · rcases h1 with z | z
      · obtain ⟨o, h⟩ := some2 b (go b q)
        rw [z] at h; cases h
      · exact fog b q z
  · rcases List.mem_append.mp hb with q | q
    · exact (e.own b q).imp_left (gg b)
    · exact .inl (go b q)
  · rcases (iff b).mp hb with z | z
    · obtain ⟨o, h⟩ := some2 b hb
      rw [e.keep b o h (fog b z)]; simp
    · exact e.there b z n
  · rcases List.mem_append.mp hb with q | q
    · rcases List.mem_append.mp q with q | q
      · exact List.mem_append_left _ q
      · exact List.mem_append_right _ (List.mem_append_right _ (List.mem_append_left _ (List.mem_append_left _ q)))
    · rcases List.mem_append.mp q with q | q
      · exact List.mem_append_right _ (List.mem_append_left _ q)
      · rcases List.mem_append.mp q with q | q
        · exact List.mem_append_right _ (List.mem_append_right _ (List.mem_append_left _ (List.mem_append_right _ q)))
        · exact List.mem_append_right _ (List.mem_append_right _ (List.mem_append_right _ q))
  · rcases (iq b).mp hb with q | q
    · exact .inl (List.mem_append_right _ q)
    · exact (inn b q).imp_left fun z => List.mem_append_left _ z
  · rcases List.mem_append.mp hb with q | q
    · exact ok b q
    · obtain ⟨o, h, p⟩ := t.there b (go b q)
      exact ⟨o, e.keep b o h (fog b q), p⟩
/-! ### parts of trees -/
theorem Trs.part {G : Hp} : ∀ {ss : List Sh} {vs : List V} {ds : List D} {f0 : List Addr}, Trs K H G ss vs ds f0 → f0.Nodup → ∀ {k : Nat} {s' : Sh} {v' : V} {d' : D}, ss[k]? = some s' → vs[k]? = some v' → ds[k]? = some d' →
    ∃ (fo f2 : List Addr), (∀ b, b ∈ f0 ↔ b ∈ fo ∨ b ∈ f2) ∧ (∀ b ∈ f2, b ∉ fo) ∧ f2.Nodup ∧ Tr K H G s' v' d' f2 ∧ ∀ (H' G' : Hp) (fn : List Addr) (d'' : D), Sub G G' → (∀ b ∈ fo, ∀ o, H b = some o → H' b = some o) → Tr K H' G' s' v' d'' fn → fn.Nodup → (∀ b ∈ fn, b ∉ fo) →
      ∃ (fq : List Addr), Trs K H' G' ss vs (ds.set k d'') fq ∧ fq.Nodup ∧ ∀ b, b ∈ fq ↔ b ∈ fo ∨ b ∈ fn
  | _, _, _, _, .nil, _, _, _, _, _, h, _, _ => by simp at h
  | _, _, _, _, .cons (fp := f1) (fq := f3) t r, n, 0, s', v', d', hs, hv, hd => by
    simp at hs hv hd
    subst hs hv hd
    obtain ⟨n1, n3, dd⟩ := List.nodup_append.mp n
    refine ⟨f3, f1, fun b => by rw [List.mem_append]; exact Or.comm, fun b hb z => dd b hb b z rfl, n1, t, fun H' G' fn d'' sG k tn nn dn => ⟨fn ++ f3, ?_, List.nodup_append.mpr ⟨nn, n3, fun x hx y hy q => by subst q; exact dn x hx hy⟩, fun b => by rw [List.mem_append]; exact Or.comm⟩⟩
    rw [List.set_cons_zero]
    exact .cons tn (r.mono sG k)
  | _, _, _, _, .cons (fp := f1) (fq := f3) t r, n, j + 1, s', v', d', hs, hv, hd => by
    simp at hs hv hd
    obtain ⟨n1, n3, dd⟩ := List.nodup_append.mp n
    obtain ⟨fo, f2, iff, dj, nf, tf, re⟩ := Trs.part r n3 hs hv hd
    refine ⟨f1 ++ fo, f2, fun b => ?_, fun b hb z => ?_, nf, tf, fun H' G' fn d'' sG k tn nn dn => ?_⟩
    · rw [List.mem_append, List.mem_append, iff b]
      exact (or_assoc).symm
    · rcases List.mem_append.mp z with z | z
      · exact dd b z b ((iff b).mpr (.inr hb)) rfl
      · exact dj b hb z
    · obtain ⟨fq, tq, nq, iq⟩ := re H' G' fn d'' sG (fun b hb => k b (List.mem_append_right _ hb)) tn nn (fun b hb z => dn b hb (List.mem_append_right _ z))
      refine ⟨f1 ++ fq, ?_, List.nodup_append.mpr ⟨n1, nq, fun x hx y hy q => ?_⟩, fun b => ?_⟩
      · rw [List.set_cons_succ]
        exact .cons (t.mono sG fun b hb => k b (List.mem_append_left _ hb)) tq
      · subst q
        rcases (iq x).mp hy with z | z
        · exact dd x hx x ((iff x).mpr (.inl z)) rfl
        · exact dn x z (List.mem_append_left _ hx)
      · rw [List.mem_append, List.mem_append, iq b]
        exact (or_assoc).symm
/-- an item of an own list -/
def stI (k : Nat) (l : D) (d : D) : Option D := match l with
  | .lst ds => some (.lst (ds.set k d))
  | _ => none
theorem Dec.item {e : Sh} {a : Addr} {vs : List V} {ds : List D} {k : Nat} {v' : V} {d' : D} (ha : H a = some (.lst vs)) (hv : vs[k]? = some v') (hd : ds[k]? = some d') : Dec K H (.li e) (.ref a) (.lst ds) e v' d' (stI k (.lst ds)) := fun G f0 t n => by
  cases t with
  | @li _ _ us _ fp h r =>
    rw [ha] at h
    cases h
    obtain ⟨na, np⟩ := List.nodup_cons.mp n
    have hk := (List.getElem?_eq_some_iff.mp hv).1
    obtain ⟨fo, f2, iff, dj, nf, tf, re⟩ := r.part np (k := k) (s' := e) (by rw [List.getElem?_replicate, if_pos hk]) hv hd
    refine ⟨a :: fo, f2, fun b => ?_, fun b hb z => ?_, nf, tf, fun H' G' fn d'' e' sG kp tn nn dn hw => ?_⟩
    · rw [List.mem_cons, List.mem_cons, iff b]
      exact (or_assoc).symm
    · rcases List.mem_cons.mp z with z | z
      · subst z; exact na ((iff b).mpr (.inr hb))
      · exact dj b hb z
    · cases hw
      obtain ⟨fq, tq, nq, iq⟩ := re H' G' fn d'' sG (fun b hb => kp b (List.mem_cons_of_mem _ hb)) tn nn (fun b hb z => dn b hb (List.mem_cons_of_mem _ z))
      refine ⟨a :: fq, .li (kp a List.mem_cons_self _ ha) tq, List.nodup_cons.mpr ⟨fun z => ?_, nq⟩, fun b => ?_⟩
      · rcases (iq a).mp z with z | z
        · exact na ((iff a).mpr (.inl z))
        · exact dn a z List.mem_cons_self
      · rw [List.mem_cons, List.mem_cons, iq b]
        exact (or_assoc).symm
/-! fields -/
def fxN : List Str → Str → Option Nat
  | [], _ => none
  | g :: fs, f => if g = f then some 0 else (fxN fs f).map (· + 1)
theorem fxN_ok : ∀ {fs : List Str} {f : Str} {k : Nat}, fxN fs f = some k → fs[k]? = some f
  | [], _, _, h => nomatch h
  | g :: fs, f, k, h => by
    unfold fxN at h
    split at h
    · rename_i c; cases h; rw [c]; rfl
    · obtain ⟨j, hj, e⟩ := Option.map_eq_some_iff.mp h
      subst e
      simpa using fxN_ok hj
theorem fx_lookup : ∀ {fs : List Str} {f : Str} {k : Nat} {vs : List V} {v : V}, fxN fs f = some k → vs[k]? = some v → (fs.zip vs).lookup f = some v
  | [], _, _, _, _, h, _ => nomatch h
  | g :: fs, f, k, [], v, h, hv => by simp at hv
  | g :: fs, f, k, w :: vs, v, h, hv => by
    unfold fxN at h
    show (match f == g with
      | true => some w
      | false => (fs.zip vs).lookup f) = some v
    split at h
    · rename_i c; cases h
      simp at hv
      subst c hv
      rw [beq_self_eq_true]
    · rename_i c
      obtain ⟨j, hj, e⟩ := Option.map_eq_some_iff.mp h
      subst e
      rw [beq_false_of_ne (fun z => c z.symm)]
      exact fx_lookup hj (by simpa using hv)
def fldD (f : Str) : D → Option D
  | .obj _ fs ds => (fxN fs f).bind fun k => ds[k]?
  | _ => none
def stF (f : Str) (o : D) (d : D) : Option D := match o with
  | .obj c fs ds => (fxN fs f).map fun k => .obj c fs (ds.set k d)
  | _ => none
theorem Dec.field {c : Str} {r : Sh} {a dx : Addr} {fs : List Str} {vs : List V} {ds : List D} {f : Str} {k : Nat} {v' : V} {d' : D} (ha : H a = some (.ins (He.ga K c) dx (fs.zip vs))) (hl : fs.length = vs.length) (hk : fxN fs f = some k) (hv : vs[k]? = some v') (hd : ds[k]? = some d') :
    Dec K H (.ob c r) (.ref a) (.obj c fs ds) (r.fld f) v' d' (stF f (.obj c fs ds)) := fun G f0 t n => by
  cases t with
  | @ob _ _ _ dx' _ us _ fp h hx l tr =>
    rw [ha] at h
    injection h with h
    injection h with _ e1 e2
    have e3 : vs = us := by
      have := congrArg (List.map Prod.snd) e2
      rw [List.map_snd_zip (by omega), List.map_snd_zip (by omega)] at this
      exact this
    subst e1 e3
    obtain ⟨na, n⟩ := List.nodup_cons.mp n
    obtain ⟨nx, np⟩ := List.nodup_cons.mp n
    obtain ⟨fo, f2, iff, dj, nf, tf, re⟩ := tr.part np (k := k) (s' := r.fld f) (by rw [List.getElem?_map, fxN_ok hk] <;> rfl) hv hd
    refine ⟨a :: dx :: fo, f2, fun b => ?_, fun b hb z => ?_, nf, tf, fun H' G' fn d'' e' sG kp tn nn dn hw => ?_⟩
    · simp only [List.mem_cons, iff b]
      constructor
      · rintro (h | h | h | h)
        · exact .inl (.inl h)
        · exact .inl (.inr (.inl h))
        · exact .inl (.inr (.inr h))
        · exact .inr h
      · rintro ((h | h | h) | h)
        · exact .inl h
        · exact .inr (.inl h)
        · exact .inr (.inr (.inl h))
        · exact .inr (.inr (.inr h))
    · have inp : b ∈ fp := (iff b).mpr (.inr hb)
      rcases List.mem_cons.mp z with z | z
      · subst z; exact na (List.mem_cons_of_mem _ inp)
      · rcases List.mem_cons.mp z with z | z
        · subst z; exact nx inp
        · exact dj b hb z
    · obtain ⟨k', hk', e⟩ := Option.map_eq_some_iff.mp hw
      rw [hk] at hk'
      cases hk'
      subst e
      obtain ⟨fq, tq, nq, iq⟩ := re H' G' fn d'' sG (fun b hb => kp b (List.mem_cons_of_mem _ (List.mem_cons_of_mem _ hb))) tn nn (fun b hb z => dn b hb (List.mem_cons_of_mem _ (List.mem_cons_of_mem _ z)))
      have naq : a ∉ fq := fun z => by
        rcases (iq a).mp z with z | z
        · exact na (List.mem_cons_of_mem _ ((iff a).mpr (.inl z)))
        · exact dn a z List.mem_cons_self
      have nxq : dx ∉ fq := fun z => by
        rcases (iq dx).mp z with z | z
        · exact nx ((iff dx).mpr (.inl z))
        · exact dn dx z (List.mem_cons_of_mem _ List.mem_cons_self)
      refine ⟨a :: dx :: fq, .ob (kp a List.mem_cons_self _ ha) (kp dx (List.mem_cons_of_mem _ List.mem_cons_self) _ hx) hl tq, List.nodup_cons.mpr ⟨fun z => ?_, List.nodup_cons.mpr ⟨nxq, nq⟩⟩, fun b => ?_⟩
      · rcases List.mem_cons.mp z with z | z
        · subst z; exact na List.mem_cons_self
        · exact naq z
      · simp only [List.mem_cons, iq b]
        constructor
        · rintro (h | h | h | h)
          · exact .inl (.inl h)
          · exact .inl (.inr (.inl h))
          · exact .inl (.inr (.inr h))
          · exact .inr h
        · rintro ((h | h | h) | h)
          · exact .inl h
          · exact .inr (.inl h)
          · exact .inr (.inr (.inl h))
          · exact .inr (.inr (.inr h))
end
end Py

set_option Elab.async false
set_option linter.all false
set_option maxRecDepth 100000
set_option maxHeartbeats 4000000
/-! Own layer: what lies at a place is changed. -/
namespace Py
open PySem PySem.Spec PyProof.Rows L2
/-! ### fields are put -/
def pfk : List Str → Str → List Str
  | [], f => [f]
  | g :: r, f => if g = f then g :: r else g :: pfk r f
def pfv {α : Type} : List Str → List α → Str → α → List α
  | g :: r, x :: xs, f, v => if g = f then v :: xs else x :: pfv r xs f v
  | _, _, _, v => [v]
theorem putF_zip : ∀ {fs : List Str} {vs : List V} {f : Str} {v : V}, fs.length = vs.length → putF f v (fs.zip vs) = (pfk fs f).zip (pfv fs vs f v)
  | [], [], f, v, _ => rfl
  | g :: fs, x :: vs, f, v, h => by
    show (if g = f then (g, v) :: fs.zip vs else (g, x) :: putF f v (fs.zip vs)) = (if g = f then g :: fs else g :: pfk fs f).zip (if g = f then v :: vs else x :: pfv fs vs f v)
    by_cases c : g = f
    · rw [if_pos c, if_pos c, if_pos c]; rfl
    · rw [if_neg c, if_neg c, if_neg c, putF_zip (by simpa using h)]; rfl
  | [], _ :: _, _, _, h => nomatch h
  | _ :: _, [], _, _, h => nomatch h
theorem pf_len {α : Type} : ∀ {fs : List Str} {vs : List α} {f : Str} {v : α}, fs.length = vs.length → (pfk fs f).length = (pfv fs vs f v).length
  | [], [], f, v, _ => rfl
  | g :: fs, x :: vs, f, v, h => by
    show (if g = f then g :: fs else g :: pfk fs f).length = (if g = f then v :: vs else x :: pfv fs vs f v).length
    by_cases c : g = f
    · rw [if_pos c, if_pos c]; exact h
    · rw [if_neg c, if_neg c, List.length_cons, List.length_cons, pf_len (by simpa using h)]
  | [], _ :: _, _, _, h => nomatch h
  | _ :: _, [], _, _, h => nomatch h
section
variable {K : PySem.W.Frag} {Γ : List Sh} {env : En} {σ : L2.St} {H : Hp} {fp Z : List Addr}
theorem Trs.put {G H' G' : Hp} {r : Sh} {f : Str} {w : V} {d : D} {fn : List Addr} (sG : Sub G G') (tn : Tr K H' G' (r.fld f) w d fn) (nn : fn.Nodup) : ∀ {fs : List Str} {vs : List V} {ds : List D} {fq : List Addr}, Trs K H G (fs.map r.fld) vs ds fq → fq.Nodup → (∀ b ∈ fq, ∀ o, H b = some o → H' b = some o) → (∀ b ∈ fn, b ∉ fq) →
    ∃ fq', Trs K H' G' ((pfk fs f).map r.fld) (pfv fs vs f w) (pfv fs ds f d) fq' ∧ fq'.Nodup ∧ ∀ b ∈ fq', b ∈ fq ∨ b ∈ fn
  | [], _, _, _, t, n, k, dj => by
    cases t
    refine ⟨fn ++ [], .cons tn .nil, by rw [List.append_nil]; exact nn, fun b hb => by rw [List.append_nil] at hb; exact .inr hb⟩
  | g :: fs, _, _, _, t, n, k, dj => by
    cases t with
    | @cons _ _ x xs e es f1 f3 t1 r1 =>
      obtain ⟨n1, n3, dd⟩ := List.nodup_append.mp n
      by_cases c : g = f
      · subst c
        have e1 : pfk (g :: fs) g = g :: fs := if_pos rfl
        have e2 : ∀ {α : Type} (x y : α) (xs : List α), pfv (g :: fs) (x :: xs) g y = y :: xs := fun x y xs => if_pos rfl
        rw [e1, e2, e2]
        refine ⟨fn ++ f3, .cons tn (r1.mono sG fun b hb => k b (List.mem_append_right _ hb)), List.nodup_append.mpr ⟨nn, n3, fun x hx y hy q => by subst q; exact dj x hx (List.mem_append_right _ hy)⟩, fun b hb => ?_⟩
        rcases List.mem_append.mp hb with z | z
        · exact .inr z
        · exact .inl (List.mem_append_right _ z)
      · have e1 : pfk (g :: fs) f = g :: pfk fs f := if_neg c
        have e2 : ∀ {α : Type} (x y : α) (xs : List α), pfv (g :: fs) (x :: xs) f y = x :: pfv fs xs f y := fun x y xs => if_neg c
        rw [e1, e2, e2]
        obtain ⟨fq', t', n', i'⟩ := Trs.put sG tn nn r1 n3 (fun b hb => k b (List.mem_append_right _ hb)) fun b hb z => dj b hb (List.mem_append_right _ z)
        refine ⟨f1 ++ fq', .cons (t1.mono sG fun b hb => k b (List.mem_append_left _ hb)) t', List.nodup_append.mpr ⟨n1, n', fun x hx y hy q => ?_⟩, fun b hb => ?_⟩
        · subst q
          rcases i' x hy with z | z
          · exact dd x hx x z rfl
          · exact dj x z (List.mem_append_left _ hx)
        · rcases List.mem_append.mp hb with z | z
          · exact .inl (List.mem_append_left _ z)
          · exact (i' b z).imp_left fun z => List.mem_append_right _ z
/-- one thing of a place is written -/
theorem At.wr {pt : D → En → Option En} {s : Sh} {v : V} {d : D} {a : Addr} {u o : HO} {W Z0 : List Addr} {f2 rest : List Addr} (ha : H a = some u) (no : NT o) (t : Tr K H (hid (fp ++ Z) H) s v d f2) (in2 : ∀ b ∈ f2, b ∈ fp) (hr : ∀ b ∈ rest, b ∈ fp ∧ b ∉ f2) (cv : ∀ b ∈ fp, b ∈ f2 ∨ b ∈ rest)
    (cont : ∀ (H' : Hp) (fc Y W Z0 : List Addr) (d' : D) (env' : En), Z = W ++ Z0 → (∀ b ∈ W, b ∉ Y ++ Z0) → (∀ b ∈ Y, (H b = none ∨ b ∈ f2) ∧ b ∉ fc ∧ ∃ o, H' b = some o ∧ NT o) → Ext H f2 H' fc →
      (∃ fn, Tr K H' (hid (fc ++ (W ++ (rest ++ (Y ++ Z0)))) H') s v d' fn ∧ fn.Nodup ∧ ∀ b ∈ fn, b ∈ fc ∨ b ∈ W) → (∀ b ∈ fc, ∃ o, H' b = some o ∧ NT o) → pt d' env = some env' → EOk K Γ env' σ H' (fc ++ (W ++ rest)) (Y ++ Z0))
    (ia : a ∈ f2) (eZ : Z = W ++ Z0) (hW : ∀ b ∈ W, b ∉ Z0) {d' : D} {env' : En} (hp : pt d' env = some env')
    (tn : ∀ G', Sub (hid (fp ++ Z) H) G' → (∀ b, b ∉ fp ++ Z0 → ∀ o', hid (fp ++ Z0) H b = some o' → G' b = some o' ∨ b ∈ W) → ∃ fn, Tr K (upd H a o) G' s v d' fn ∧ fn.Nodup ∧ ∀ b ∈ fn, b ∈ f2 ∨ b ∈ W) :
    ∃ fp', EOk K Γ env' σ (upd H a o) fp' Z0 ∧ Ext H (W ++ fp) (upd H a o) fp' := by
  have x : Ext H f2 (upd H a o) f2 := ⟨fun b q h n => by rw [upd_ne fun z => n (by rw [z]; exact ia)]; exact h, fun b hb => .inl hb, fun b hb _ => by
    by_cases z : b = a
    · subst z; rw [upd_same]; simp
    · rw [upd_ne z]; obtain ⟨q, h, _⟩ := t.there b hb; rw [h]; simp⟩
  have memb : ∀ b, b ∈ f2 ++ (W ++ (rest ++ ([] ++ Z0))) → b ∈ fp ++ Z := fun b hb => by
    subst eZ
    rcases List.mem_append.mp hb with z | z
    · exact List.mem_append_left _ (in2 b z)
    · rcases List.mem_append.mp z with z | z
      · exact List.mem_append_right _ (List.mem_append_left _ z)
      · rcases List.mem_append.mp z with z | z
        · exact List.mem_append_left _ (hr b z).1
        · exact List.mem_append_right _ (List.mem_append_right _ z)
  obtain ⟨fn, t1, n1, i1⟩ := tn (hid (f2 ++ (W ++ (rest ++ ([] ++ Z0)))) (upd H a o)) (fun b q h => by
      obtain ⟨h1, h2⟩ := hid_some h
      rw [hid_of fun z => h1 (memb b z), upd_ne fun z => h1 (by rw [z]; exact List.mem_append_left _ (in2 a ia))]
      exact h2) (fun b hb q h => by
      obtain ⟨h1, h2⟩ := hid_some h
      by_cases w : b ∈ W
      · exact .inr w
      · refine .inl ?_
        rw [hid_of, upd_ne fun z => h1 (by rw [z]; exact List.mem_append_left _ (in2 a ia))]
        · exact h2
        · intro z
          rcases List.mem_append.mp z with z | z
          · exact h1 (List.mem_append_left _ (in2 b z))
          · rcases List.mem_append.mp z with z | z
            · exact w z
            · rcases List.mem_append.mp z with z | z
              · exact h1 (List.mem_append_left _ (hr b z).1)
              · exact h1 (List.mem_append_right _ z))
  refine ⟨f2 ++ (W ++ rest), cont _ f2 [] W Z0 d' env' eZ (fun b hb z => hW b hb z) (fun _ z => nomatch z) x ⟨fn, t1, n1, i1⟩ (fun b hb => ?_) hp, ⟨fun b q h n => ?_, fun b hb => ?_, fun b hb n => ?_⟩⟩
  · by_cases z : b = a
    · subst z; exact ⟨_, upd_same, no⟩
    · rw [upd_ne z]; exact t.there b hb
  · rw [upd_ne fun z => n (by rw [z]; exact List.mem_append_right _ (in2 a ia))]; exact h
  · rcases List.mem_append.mp hb with z | z
    · exact .inl (List.mem_append_right _ (in2 b z))
    · rcases List.mem_append.mp z with z | z
      · exact .inl (List.mem_append_left _ z)
      · exact .inl (List.mem_append_right _ (hr b z).1)
  · by_cases z : b = a
    · subst z; rw [upd_same]; simp
    · rw [upd_ne z]; exact n
theorem At.lset {pt : D → En → Option En} {v : V} {d : D} (A : At K Γ pt (.li .fz) env σ H fp Z v d) : ∃ a vs ds, v = .ref a ∧ d = .lst ds ∧ H a = some (.lst vs) ∧ Reps K (hid (fp ++ Z) H) vs ds ∧ ∀ us es env', Reps K (hid (fp ++ Z) H) us es → pt (.lst es) env = some env' → ∃ fp', EOk K Γ env' σ (upd H a (.lst us)) fp' Z ∧ Ext H fp (upd H a (.lst us)) fp' := by
  obtain ⟨f2, rest, t, n2, in2, hr, cv, cont⟩ := A
  obtain ⟨a, vs, ds, rfl, rfl, rfl, ha, r⟩ := t.liFz
  refine ⟨a, vs, ds, rfl, rfl, ha, r, fun us es env' ru hp => ?_⟩
  exact At.wr (W := []) (pt := pt) ha (nt_lst us) t in2 hr cv cont (by simp) rfl (fun _ z => nomatch z) hp fun G' sG _ => ⟨[a], .li (fp := []) upd_same (Trs.ofFz (ru.mono sG)), by simp, fun b hb => .inl hb⟩
theorem At.dset {pt : D → En → Option En} {v : V} {d : D} (A : At K Γ pt (.dk .fz) env σ H fp Z v d) : ∃ a ks vs ds, v = .ref a ∧ d = .dic ks ds ∧ H a = some (.dK (ks.zip vs)) ∧ ks.length = vs.length ∧ Reps K (hid (fp ++ Z) H) vs ds ∧
    ∀ js us es env', js.length = us.length → Reps K (hid (fp ++ Z) H) us es → pt (.dic js es) env = some env' → ∃ fp', EOk K Γ env' σ (upd H a (.dK (js.zip us))) fp' Z ∧ Ext H fp (upd H a (.dK (js.zip us))) fp' := by
  obtain ⟨f2, rest, t, n2, in2, hr, cv, cont⟩ := A
  obtain ⟨a, ks, vs, ds, rfl, rfl, rfl, ha, l, r⟩ := t.dkFz
  refine ⟨a, ks, vs, ds, rfl, rfl, ha, l, r, fun js us es env' hl ru hp => ?_⟩
  exact At.wr (W := []) (pt := pt) ha (nt_dK _) t in2 hr cv cont (by simp) rfl (fun _ z => nomatch z) hp fun G' sG _ => ⟨[a], .dk (fp := []) upd_same hl (Trs.ofFz (ru.mono sG)), by simp, fun b hb => .inl hb⟩
/-- o.f = d -/
def putO (f : Str) (d : D) : D → Option D
  | .obj c fs ds => if fs.length < 1000 then some (.obj c (pfk fs f) (pfv fs ds f d)) else none
  | _ => none
theorem At.oset {pt : D → En → Option En} {c : Str} {r : Sh} {v : V} {d : D} (A : At K Γ pt (.ob c r) env σ H fp Z v d) : ∃ a dx fs vs ds, v = .ref a ∧ d = .obj c fs ds ∧ H a = some (.ins (He.ga K c) dx (fs.zip vs)) ∧ H dx = some (.own a) ∧ fs.length = vs.length ∧ vs.length = ds.length ∧
    (∀ f w e env', r.fld f = .fz → Rep K (hid (fp ++ Z) H) w e → pt (.obj c (pfk fs f) (pfv fs ds f e)) env = some env' → ∃ fp', EOk K Γ env' σ (upd H a (.ins (He.ga K c) dx (putF f w (fs.zip vs)))) fp' Z ∧ Ext H fp (upd H a (.ins (He.ga K c) dx (putF f w (fs.zip vs)))) fp') ∧
    (∀ f w e env' fn Z0, Z = fn ++ Z0 → Tr K H (hid (fn ++ (fp ++ Z0)) H) (r.fld f) w e fn → fn.Nodup → (∀ b ∈ fn, b ∉ fp ++ Z0) → pt (.obj c (pfk fs f) (pfv fs ds f e)) env = some env' → ∃ fp', EOk K Γ env' σ (upd H a (.ins (He.ga K c) dx (putF f w (fs.zip vs)))) fp' Z0 ∧ Ext H (fn ++ fp) (upd H a (.ins (He.ga K c) dx (putF f w (fs.zip vs)))) fp') := by
  obtain ⟨f2, rest, t, n2, in2, hr, cv, cont⟩ := A
  cases t with
  | @ob _ _ a dx fs vs ds fq ha hx l tr =>
    have len : ∀ {ss : List Sh} {vs : List V} {ds : List D} {f : List Addr}, Trs K H (hid (fp ++ Z) H) ss vs ds f → vs.length = ds.length := fun {ss} => by
      induction ss with
      | nil => intro vs ds f h; cases h; rfl
      | cons s ss ih => intro vs ds f h; cases h with
        | cons _ h => simp [ih h]
    have l2 := len tr
    obtain ⟨na, nq⟩ := List.nodup_cons.mp n2
    obtain ⟨nx, nq⟩ := List.nodup_cons.mp nq
    have nad : dx ≠ a := fun z => na (by rw [← z]; exact List.mem_cons_self)
    have naq : ∀ b ∈ fq, b ≠ a := fun b hb z => na (by rw [← z]; exact List.mem_cons_of_mem _ hb)
    refine ⟨a, dx, fs, vs, ds, rfl, rfl, ha, hx, l, l2, fun f w e env' hf ru hp => ?_, fun f w e env' fn Z0 eZ tw nn dj hp => ?_⟩
    · refine At.wr (W := []) (pt := pt) ha (nt_ins _ _ _) (.ob ha hx l tr) in2 hr cv cont List.mem_cons_self rfl (fun _ z => nomatch z) hp fun G' sG _ => ?_
      obtain ⟨fq', t', n', i'⟩ := Trs.put (H' := upd H a (.ins (He.ga K c) dx (putF f w (fs.zip vs)))) (f := f) (w := w) (d := e) (fn := []) sG (by rw [hf]; exact .fz (ru.mono sG)) List.nodup_nil tr nq (fun b hb o h => by rw [upd_ne (naq b hb)]; exact h) fun _ z => nomatch z
      have i2 : ∀ b ∈ fq', b ∈ fq := fun b hb => (i' b hb).elim id fun z => nomatch z
      refine ⟨a :: dx :: fq', .ob (by rw [upd_same, putF_zip l]) (by rw [upd_ne nad]; exact hx) (pf_len l) t', List.nodup_cons.mpr ⟨fun z => ?_, List.nodup_cons.mpr ⟨fun z => nx (i2 _ z), n'⟩⟩, fun b hb => .inl ?_⟩
      · rcases List.mem_cons.mp z with z | z
        · exact nad z.symm
        · exact naq a (i2 a z) rfl
      · rcases List.mem_cons.mp hb with z | z
        · rw [z]; exact List.mem_cons_self
        · rcases List.mem_cons.mp z with z | z
          · rw [z]; exact List.mem_cons_of_mem _ List.mem_cons_self
          · exact List.mem_cons_of_mem _ (List.mem_cons_of_mem _ (i2 b z))
    · subst eZ
      have fnf : ∀ b ∈ fn, b ∉ a :: dx :: fq := fun b hb z => dj b hb (List.mem_append_left _ (in2 b z))
      refine At.wr (W := fn) (Z0 := Z0) (pt := pt) ha (nt_ins _ _ _) (.ob ha hx l tr) in2 hr cv cont List.mem_cons_self rfl (fun b hb z => dj b hb (List.mem_append_right _ z)) hp fun G' sG sG2 => ?_
      have tw' : Tr K (upd H a (.ins (He.ga K c) dx (putF f w (fs.zip vs)))) G' (r.fld f) w e fn := tw.mono (fun b o h => by
        obtain ⟨h1, h2⟩ := hid_some h
        have h3 : b ∉ fp ++ Z0 := fun z => h1 (List.mem_append_right _ z)
        rcases sG2 b h3 o (by rw [hid_of h3]; exact h2) with z | z
        · exact z
        · exact absurd (List.mem_append_left _ z) h1) fun b hb o h => by
        rw [upd_ne fun z => fnf b hb (by rw [z]; exact List.mem_cons_self)]; exact h
      obtain ⟨fq', t', n', i'⟩ := Trs.put (H' := upd H a (.ins (He.ga K c) dx (putF f w (fs.zip vs)))) (f := f) (w := w) (d := e) (fn := fn) sG tw' nn tr nq (fun b hb o h => by rw [upd_ne (naq b hb)]; exact h) fun b hb z => fnf b hb (List.mem_cons_of_mem _ (List.mem_cons_of_mem _ z))
      refine ⟨a :: dx :: fq', .ob (by rw [upd_same, putF_zip l]) (by rw [upd_ne nad]; exact hx) (pf_len l) t', List.nodup_cons.mpr ⟨fun z => ?_, List.nodup_cons.mpr ⟨fun z => ?_, n'⟩⟩, fun b hb => ?_⟩
      · rcases List.mem_cons.mp z with z | z
        · exact nad z.symm
        · rcases i' a z with q | q
          · exact naq a q rfl
          · exact fnf a q List.mem_cons_self
      · rcases i' dx z with q | q
        · exact nx q
        · exact fnf dx q (List.mem_cons_of_mem _ List.mem_cons_self)
      · rcases List.mem_cons.mp hb with z | z
        · rw [z]; exact .inl List.mem_cons_self
        · rcases List.mem_cons.mp z with z | z
          · rw [z]; exact .inl (List.mem_cons_of_mem _ List.mem_cons_self)
          · rcases i' b z with q | q
            · exact .inl (List.mem_cons_of_mem _ (List.mem_cons_of_mem _ q))
            · exact .inr q
end
end Py

set_option Elab.async false
set_option linter.all false
set_option maxRecDepth 100000
set_option maxHeartbeats 4000000
/-! Own layer: expressions that are places; statements at places. -/
namespace Py
open PySem PySem.Spec PyProof.Rows L2
/-- what of a class must be known -/
structure ClF (K : PySem.W.Frag) (c : Str) (fl : List Str) : Prop where
  cls : Cls K (He.ga K c)
  na : ∀ f ∈ fl, NoAttr K (He.ga K c) f
def clB (K : PySem.W.Frag) (c : Str) (fl : List Str) : Bool :=
  PySem.W.plainGet K (He.ga K c) Str.empty && (PySem.W.hasDictIn K (He.ga K c) && (PySem.W.plainOver K (He.ga K c) && (decide (PySem.W.findIn K (.ref (He.ga K c)) "__setattr__" = some (some (.builtin "object.__setattr__"))) && fl.all fun f => decide (PySem.W.findIn K (.ref (He.ga K c)) f = some none))))
theorem clB_ok {K : PySem.W.Frag} {c : Str} {fl : List Str} (h : clB K c fl = true) : ClF K c fl := by
  obtain ⟨h1, h⟩ := Bool.and_eq_true_iff.mp h
  obtain ⟨h2, h⟩ := Bool.and_eq_true_iff.mp h
  obtain ⟨h3, h⟩ := Bool.and_eq_true_iff.mp h
  obtain ⟨h4, h5⟩ := Bool.and_eq_true_iff.mp h
  exact ⟨⟨h1, h2, h3, of_decide_eq_true h4⟩, fun f hf => by
    have z := of_decide_eq_true (List.all_eq_true.mp h5 f hf)
    exact z⟩
structure PL (X : Cx) (Γ : List Sh) (e : Expr) (s : Sh) (g : En → Option D) (pt : D → En → Option En) : Prop where
  ex : ∃ t, PE X e t ∧ ∀ (σ : L2.St) (H : Hp) (Q : VK) (env : En) (fp Z : List Addr) (d : D), EOk X.K Γ env σ H fp Z → g env = some d → (∀ v H', Sub H H' → At X.K Γ pt s env σ H' fp Z v d → Q v H') → t σ H Q
section
variable {X : Cx} {xc : Nat → Addr} {W : WX} {np : Nat} {Γ : List Sh} {rk : Kd} {a b e o : Expr} {s : Sh} {c f : Str} {r : Sh} {fl : List Str} {g fa fb fc : En → Option D} {pt : D → En → Option En} {m : IE} {ka kb kc k : Kd} {pos p2 p3 p4 apos cpos : Pos}
theorem pl_var (i : Nat) {x : Str} (hN : X.N[i]? = some x := by rfl) (hv : Vis X.env.scope x := by first | exact Or.inl rfl | exact Or.inr (Or.inl rfl) | exact Or.inr (Or.inr rfl)) (hs : Γ[i]? = some s := by rfl) (hd : (x == ("__debug__" : Str)) = false := by decide)
    (hcd : (x == ("__classdict__" : Str)) = false := by decide) : PL X Γ (.Name x pos) s (vr i) (pv i) := by
  refine ⟨_, pe_var hN hv hd hcd, fun σ H Q env fp Z d E hf hQ => ?_⟩
  have hf' : env[i]? = some (some d) := by
    unfold vr at hf
    cases e : env[i]? with
    | none => rw [e] at hf; cases hf
    | some o => rw [e] at hf; exact congrArg some hf
  obtain ⟨v, h1, A⟩ := At.var E hs hf'
  exact ⟨v, h1, hQ v H Sub.refl A⟩
theorem fld_at {K : PySem.W.Frag} {G : Hp} {fs : List Str} {vs : List V} {ds : List D} {x : D} (hl : fs.length = vs.length) (hl2 : vs.length = ds.length) (h : fldD f (.obj c fs ds) = some x) : ∃ k y, fxN fs f = some k ∧ vs[k]? = some y ∧ ds[k]? = some x ∧ (fs.zip vs).lookup f = some y := by
  obtain ⟨k, hk, hd⟩ := Option.bind_eq_some_iff.mp h
  have hk2 := (List.getElem?_eq_some_iff.mp hd).1
  exact ⟨k, vs[k], hk, List.getElem?_eq_getElem (by omega), hd, fx_lookup hk (List.getElem?_eq_getElem (by omega))⟩
def wF (g : En → Option D) (f : Str) (env : En) (d : D) : Option D := (g env).bind fun o => stF f o d
theorem pl_fld (C : ClF X.K c fl) (h : PL X Γ e (.ob c r) g pt) (hf : fl.contains f = true := by rfl) (hb : attributeBase e f X.env (eval e X.env) = eval e X.env := by rfl) : PL X Γ (.Attribute e f pos) (r.fld f) (b1 g (fldD f)) (pw (wF g f) pt) := by
  obtain ⟨t, p, q⟩ := h.ex
  refine ⟨_, pe_fld p hb, fun σ H Q env fp Z d E hx hQ => ?_⟩
  obtain ⟨o, ho, hd⟩ := bind1 hx
  refine q σ H _ env fp Z o E ho fun v H1 s1 A => ?_
  obtain ⟨a, dx, fs, vs, ds, rfl, rfl, ha, hdx, l1, l2, _⟩ := A.oset
  obtain ⟨k, y, hk, hy, hdk, lk⟩ := fld_at (K := X.K) (G := H1) l1 l2 hd
  have E1 := E.same s1
  refine ⟨a, _, dx, _, y, rfl, ha, C.cls, C.na f (by simpa using hf), lk, hQ y H1 s1 (A.sub E1.ok E1.dj ?_)⟩
  have e1 : wF g f env = stF f (.obj c fs ds) := funext fun z => by
    unfold wF
    rw [ho] <;> rfl
  rw [e1]
  exact Dec.field ha l1 hk hy hdk
def stX (l j d : D) : Option D := match l, j with
  | .lst ds, .int i => (ixN ds.length i).map fun k => .lst (ds.set k d)
  | _, _ => none
def wX (g fb : En → Option D) (env : En) (d : D) : Option D := (g env).bind fun l => (fb env).bind fun j => stX l j d
theorem pl_ix (h : PL X Γ a (.li s) g pt) (hb : SP X Γ b fb kb) (hs : PlainIx b := by first | exact (fun _ _ => rfl) | (intro _ _; rfl)) : PL X Γ (.Subscript a b pos) s (b2 g fb ixD) (pw (wX g fb) pt) := by
  obtain ⟨t, p, q⟩ := h.ex
  obtain ⟨tb, pb, qb⟩ := hb.ex
  refine ⟨_, pe_ix ix_seq p pb hs, fun σ H Q env fp Z d E hx hQ => ?_⟩
  obtain ⟨l, j, hl, hj, hd⟩ := bind2 hx
  refine q σ H _ env fp Z l E hl fun v H1 s1 A => qb σ H1 _ env fp Z j (E.same s1) hj fun w H2 s2 h2 => ?_
  have A2 := A.mono s2
  have E2 := E.same (s1.trans s2)
  have A2' := A2
  obtain ⟨f2, rest, tr, _⟩ := A2
  cases tr with
  | @li _ p1 us ds fq ha tr =>
    cases j with
    | int i =>
      cases h2.rep
      have hd' : atI ds i = some d := hd
      unfold atI at hd'
      obtain ⟨n, hn, hdn⟩ := Option.bind_eq_some_iff.mp hd'
      have len : ∀ {ss : List Sh} {vs : List V} {ds : List D} {f : List Addr}, Trs X.K H2 (hid (fp ++ Z) H2) ss vs ds f → vs.length = ds.length := fun {ss} => by
        induction ss with
        | nil => intro vs ds f h; cases h; rfl
        | cons s ss ih => intro vs ds f h; cases h with
          | cons _ h => simp [ih h]
      have l2 := len tr
      have hn2 := (List.getElem?_eq_some_iff.mp hdn).1
      obtain ⟨u, hu⟩ : ∃ u, us[n]? = some u := ⟨_, List.getElem?_eq_getElem (by omega)⟩
      refine .inl ⟨p1, us, i, u, rfl, rfl, SqL.of ha, ?_, hQ _ H2 (s1.trans s2) (A2'.sub E2.ok E2.dj ?_)⟩
      · unfold atI
        rw [l2, hn]
        exact hu
      · have e1 : wX g fb env = stI n (.lst ds) := funext fun z => by
          unfold wX
          rw [hl, hj]
          show (ixN ds.length i).map (fun k => D.lst (ds.set k z)) = _
          rw [hn] <;> rfl
        rw [e1]
        exact Dec.item ha hu hdn
    | _ => cases hd
theorem s_pl (h : PL X Γ e s g pt) : SP X Γ e g (.vw s) := by
  obtain ⟨t, p, q⟩ := h.ex
  refine ⟨t, p, fun σ H Q env fp Z d E hf hQ => q σ H Q env fp Z d E hf fun v H1 s1 A => hQ v H1 s1 ?_⟩
  obtain ⟨f2, rest, tr, n2, in2, _⟩ := A
  exact ⟨f2, in2, n2, tr⟩
theorem s_plF (h : PL X Γ e .fz g pt) : SP X Γ e g .u := (s_pl h).u rfl
def fldC (c f : Str) : D → Option D
  | .obj c0 fs ds => if c0 = c then (fxN fs f).bind fun k => ds[k]? else none
  | _ => none
theorem rep_fld {K : PySem.W.Frag} {G : Hp} {v : V} {o x : D} (h : Rep K G v o) (hd : fldC c f o = some x) : ∃ a dx kvs y, v = .ref a ∧ G a = some (.ins (He.ga K c) dx kvs) ∧ kvs.lookup f = some y ∧ Rep K G y x := by
  cases h with
  | @obj a dx c0 fs xs ds ha hl r =>
    have hd2 : (if c0 = c then (fxN fs f).bind fun k => ds[k]? else none) = some x := hd
    clear hd
    by_cases e : c0 = c
    · rw [if_pos e] at hd2
      subst e
      obtain ⟨k, y, hk, hy, hdk, lk⟩ := fld_at (c := c0) (K := K) (G := G) hl r.length hd2
      obtain ⟨y', h1, h2⟩ := r.get hdk
      rw [hy] at h1; cases h1
      exact ⟨a, dx, _, y, rfl, ha, lk, h2⟩
    · rw [if_neg e] at hd2
      cases hd2
  | _ => cases hd
theorem s_fldU (C : ClF X.K c fl) (h : SP X Γ e g .u) (hf : fl.contains f = true := by rfl) (hb : attributeBase e f X.env (eval e X.env) = eval e X.env := by rfl) : SP X Γ (.Attribute e f pos) (b1 g (fldC c f)) .u := by
  obtain ⟨t, p, q⟩ := h.ex
  refine ⟨_, pe_fld p hb, fun σ H Q env fp Z d E hx hQ => ?_⟩
  obtain ⟨o, ho, hd⟩ := bind1 hx
  refine q σ H _ env fp Z o E ho fun v H1 s1 hv => ?_
  obtain ⟨a, dx, kvs, y, rfl, ha, lk, ry⟩ := rep_fld hv hd
  exact ⟨a, _, dx, _, y, rfl, hid_sub _ _ ha, C.cls, C.na f (by simpa using hf), lk, hQ y H1 s1 ry⟩
/-! ### statements -/
def qPl (g : En → Option D) (op : En → D → Option D) (pt : D → En → Option En) : SE := fun env => (g env).bind fun l => (op env l).bind fun l' => (pt l' env).map fun e => (.nx, e)
theorem qPl_ok {op : En → D → Option D} {env env' : En} {fl : Fl} (h : qPl g op pt env = some (fl, env')) : fl = .nx ∧ ∃ l l', g env = some l ∧ op env l = some l' ∧ pt l' env = some env' := by
  obtain ⟨l, h1, h⟩ := Option.bind_eq_some_iff.mp h
  obtain ⟨l', h2, h⟩ := Option.bind_eq_some_iff.mp h
  obtain ⟨e, h3, h⟩ := Option.map_eq_some_iff.mp h
  cases h
  exact ⟨rfl, l, l', h1, h2, h3⟩
/-- p.append(e) -/
def apD (d : D) : D → Option D
  | .lst xs => (apL d xs).map .lst
  | _ => none
theorem qp_append (h : PL X Γ a (.li .fz) g pt) (he : SP X Γ e fa .u)
    (hsw : swapsWith (.Call (.Attribute a "append" p3) [e] [] p4) none pos.line X.env = pure false := by rfl) (hse : starEach [e] X.env = (false, eval e X.env) :: starEach [] X.env := by rfl)
    (mk : ∀ (to : TE) (t : TA), PE X a to → PA X [e] t → PE X (.Call (.Attribute a "append" p3) [e] [] p4) (tBM X.K "list" rAppend to t) := by intro to t ho ha; exact L2.pe_bm PySem.F.plainAttrs_list PySem.F.slot_list_append PySem.F.type_list_append L2.mt_append ho ha) :
    SS X xc W np Γ rk (.Expr (.Call (.Attribute a "append" p3) [e] [] p4) pos) (qPl g (fun env l => (fa env).bind fun d => apD d l) pt) := by
  obtain ⟨t, p, q⟩ := h.ex
  obtain ⟨t2, p2, q2⟩ := he.ex
  refine ⟨_, ps_expr (mk _ _ p (pa_cons p2 pa_nil hse)) hsw, fun D σ H env fp Z fl env' E hf hQ => ?_⟩
  obtain ⟨rfl, l, l', hl, ho, hp⟩ := qPl_ok hf
  obtain ⟨d, hd, ho⟩ := Option.bind_eq_some_iff.mp ho
  refine q σ H _ env fp Z l E hl fun v H1 s1 A => ?_
  obtain ⟨a1, vs1, ds1, rfl, rfl, ha1, _⟩ := A.lset
  refine ⟨.inl ⟨rfl, vs1, .inl (.inl ha1)⟩, q2 σ H1 _ env fp Z d (E.same s1) hd fun w H2 s2 hw => ?_⟩
  obtain ⟨a2, vs, ds, e1, e2, ha, rr, cont⟩ := (A.mono s2).lset
  cases e1
  cases e2
  obtain ⟨ys, hy, e3⟩ := Option.map_eq_some_iff.mp (show (apL d ds1).map Py.D.lst = some l' from ho)
  subst e3
  unfold apL at hy
  split at hy
  · rename_i hlen
    cases hy
    obtain ⟨fp', E2, x2⟩ := cont (vs ++ [w]) (ds1 ++ [d]) env' (rr.append (.cons hw .nil)) hp
    exact ⟨_, _, _, rfl, rfl, ha, by rw [rr.length]; exact hlen, hQ σ _ fp' E2 ((Ext.same (s1.trans s2)).trans x2) Prot.refl⟩
  · cases hy
/-- p.extend(e): e a list that is seen or new -/
def exD2 (d : D) : D → Option D
  | .lst xs => (exL d xs).map .lst
  | _ => none
def Kd.lk : Kd → Bool
  | .nw (.li .fz) => true
  | .vw (.li .fz) => true
  | _ => false
theorem HK.lk {K : PySem.W.Frag} {k : Kd} {H H' : Hp} {fp Z : List Addr} {v : V} {d : D} (h : HK K k H fp Z H' v d) (c : k.lk = true) : ∃ b zv zs, v = .ref b ∧ d = .lst zs ∧ H' b = some (.lst zv) ∧ Reps K (hid (fp ++ Z) H') zv zs := by
  unfold Kd.lk at c
  split at c
  · obtain ⟨fn, _, _, tr⟩ := h
    obtain ⟨bb, zv, zs, rfl, rfl, rfl, hb, rz⟩ := tr.liFz
    exact ⟨bb, zv, zs, rfl, rfl, hb, rz.mono (hid_less fun b hb => List.mem_append_right _ hb)⟩
  · obtain ⟨fn, _, _, tr⟩ := h
    obtain ⟨bb, zv, zs, rfl, rfl, rfl, hb, rz⟩ := tr.liFz
    exact ⟨bb, zv, zs, rfl, rfl, hb, rz⟩
  · cases c
theorem qp_extend (h : PL X Γ a (.li .fz) g pt) (he : SP X Γ e fa k) (hk : k.lk = true := by rfl)
    (hsw : swapsWith (.Call (.Attribute a "extend" p3) [e] [] p4) none pos.line X.env = pure false := by rfl) (hse : starEach [e] X.env = (false, eval e X.env) :: starEach [] X.env := by rfl)
    (mk : ∀ (to : TE) (t : TA), PE X a to → PA X [e] t → PE X (.Call (.Attribute a "extend" p3) [e] [] p4) (tBM X.K "list" rExtend to t) := by intro to t ho ha; exact L2.pe_bm PySem.F.plainAttrs_list PySem.F.slot_list_extend PySem.F.type_list_extend L2.mt_extend ho ha) :
    SS X xc W np Γ rk (.Expr (.Call (.Attribute a "extend" p3) [e] [] p4) pos) (qPl g (fun env l => (fa env).bind fun d => exD2 d l) pt) := by
  obtain ⟨t, p, q⟩ := h.ex
  obtain ⟨t2, p2, q2⟩ := he.ex
  refine ⟨_, ps_expr (mk _ _ p (pa_cons p2 pa_nil hse)) hsw, fun D σ H env fp Z fl env' E hf hQ => ?_⟩
  obtain ⟨rfl, l, l', hl, ho, hp⟩ := qPl_ok hf
  obtain ⟨d, hd, ho⟩ := Option.bind_eq_some_iff.mp ho
  refine q σ H _ env fp Z l E hl fun v H1 s1 A => ?_
  obtain ⟨a1, vs1, ds1, rfl, rfl, ha1, _⟩ := A.lset
  refine ⟨.inl ⟨rfl, vs1, .inl (.inl ha1)⟩, q2 σ H1 _ env fp Z d (E.same s1) hd fun w H2 s2 hw => ?_⟩
  obtain ⟨a2, vs, ds, e1, e2, ha, rr, cont⟩ := (A.mono s2).lset
  cases e1
  cases e2
  obtain ⟨bb, zv, zs, rfl, rfl, hb, rz⟩ := hw.lk hk
  obtain ⟨ys, hy, e3⟩ := Option.map_eq_some_iff.mp (show (exL (.lst zs) ds1).map Py.D.lst = some l' from ho)
  subst e3
  simp only [exL] at hy
  split at hy
  · rename_i hlen
    cases hy
    obtain ⟨fp', E2, x2⟩ := cont (vs ++ zv) (ds1 ++ zs) env' (rr.append rz) hp
    exact ⟨_, bb, _, zv, rfl, rfl, ha, hb, by rw [rr.length, rz.length]; exact hlen, hQ σ _ fp' E2 ((Ext.same (s1.trans s2)).trans x2) Prot.refl⟩
  · cases hy
/-- p.pop() -/
def popP (g : En → Option D) (pt : D → En → Option En) : IE := fun env => (g env).bind fun l => match l with
  | .lst xs => (xs[xs.length - 1]?).bind fun d => (pt (.lst xs.dropLast) env).map fun e => (.ok d, e)
  | _ => none
theorem si_popP (h : PL X Γ a (.li .fz) g pt)
    (mk : ∀ (to : TE), PE X a to → PE X (.Call (.Attribute a "pop" p3) [] [] p4) (tBM0 X.K "list" rPop to) := by intro to ho; exact L2.pe_bm0 PySem.F.plainAttrs_list PySem.F.slot_list_pop PySem.F.type_list_pop L2.mt_pop ho) :
    SI X xc W Γ (.Call (.Attribute a "pop" p3) [] [] p4) (popP g pt) .u := by
  obtain ⟨t, p, q⟩ := h.ex
  refine ⟨_, mk _ p, fun σ H Q env fp Z rr env' E hf hQ => ?_⟩
  obtain ⟨l, hl, hf⟩ := Option.bind_eq_some_iff.mp hf
  refine q σ H _ env fp Z l E hl fun v H1 s1 A => ?_
  obtain ⟨a1, vs, ds, rfl, rfl, ha, r, cont⟩ := A.lset
  obtain ⟨d, hd, hf⟩ := Option.bind_eq_some_iff.mp hf
  obtain ⟨e, hp, z⟩ := Option.map_eq_some_iff.mp hf
  cases z
  obtain ⟨y, hy, ry⟩ := r.get hd
  obtain ⟨fp', E2, x2⟩ := cont vs.dropLast ds.dropLast _ r.dropLast hp
  exact ⟨.inl ⟨rfl, vs, .inl (.inl ha)⟩, _, _, y, rfl, rfl, ha, by rw [r.length]; exact hy, hQ _ fp' E2 ((Ext.same s1).trans x2) y (Rep.mono x2.hid ry)⟩
/-- p[j] = e, p a list -/
def stD (j d : D) : D → Option D
  | .lst xs => (stL j d xs).map .lst
  | _ => none
theorem qp_setItem (he : SI X xc W Γ e m .u) (h : PL X Γ a (.li .fz) g pt) (hi : SP X Γ b fb kb)
    (ha : ∀ v, assign (.Subscript a b p3) X.env v = (do
      let ov ← holding [v] (eval a X.env)
      let iv ← holding [v, ov] (eval b X.env)
      standAt p3
      holding [v, ov, iv] (setItem ov iv v)
      release [v, ov, iv] []) := by intro _; rfl)
    (hsw : swapsWithSole [.Subscript a b p3] e pos.line X.env = pure false := by rfl) (hw : swappedStores [.Subscript a b p3] e X.env = pure none := by rfl)
    (h1 : (assignEach [.Subscript a b p3] X.env).map (·.2) = [assign (.Subscript a b p3) X.env] := by rfl) :
    SS X xc W np Γ rk (.Assign [.Subscript a b p3] e pos) (qDo m fun d env => (g env).bind fun l => (fb env).bind fun j => (stD j d l).bind fun l' => pt l' env) := by
  obtain ⟨t, p, q⟩ := he.ex
  obtain ⟨t1, p1, q1⟩ := h.ex
  obtain ⟨t2, pb, q2⟩ := hi.ex
  refine ⟨_, ps_asg p (pg_sub p1 pb set_list ha) hsw hw h1, fun D σ H env fp Z fl env' E hf hQ => ?_⟩
  unfold qDo at hf
  split at hf
  · rename_i d e1 h1
    obtain ⟨e2, h2, z⟩ := Option.map_eq_some_iff.mp hf
    cases z
    obtain ⟨l, hl, h2⟩ := Option.bind_eq_some_iff.mp h2
    obtain ⟨j, hj, h2⟩ := Option.bind_eq_some_iff.mp h2
    obtain ⟨l', hl', hp⟩ := Option.bind_eq_some_iff.mp h2
    refine q σ H _ env fp Z _ e1 E h1 fun H1 f1 E1 x1 v hv => ?_
    refine q1 σ H1 _ e1 f1 Z l E1 hl fun ov H2 s2 A => q2 σ H2 _ e1 f1 Z j (E1.same s2) hj fun w H3 s3 hw => ?_
    obtain ⟨a', vs, ds, rfl, rfl, ha', rr, cont⟩ := (A.mono s3).lset
    obtain ⟨ys, hy, e3⟩ := Option.map_eq_some_iff.mp (show (stL j d ds).map Py.D.lst = some l' from hl')
    subst e3
    cases j with
    | int k =>
      obtain ⟨n, hn, e⟩ := Option.map_eq_some_iff.mp hy
      subst e
      cases hw.rep
      obtain ⟨fp', E3, x3⟩ := cont (vs.set n v) (ds.set n d) _ (rr.set (Rep.mono (hid_mono (s2.trans s3)) hv) n) hp
      exact ⟨_, _, _, n, rfl, rfl, ha', by rw [rr.length]; exact hn, hQ σ _ fp' E3 ((x1.trans (Ext.same (s2.trans s3))).trans x3) Prot.refl⟩
    | _ => cases hy
  · rename_i cc dd e1 h1
    cases hf
    exact q σ H _ env fp Z _ env' E h1 fun H1 f1 E1 x1 cls od hx => hQ σ H1 f1 E1 x1 Prot.refl cls od hx
  · cases hf
/-- p[j] = e, p a dict -/
def dpD (j d : D) : D → Option D
  | .dic ks ds => (asK j).bind fun k => if ks.length < sizeLine then some (.dic (dpk ks k) (dpv ks ds k d)) else none
  | _ => none
theorem qp_dput (hu : X.A.units + 1 < cLine) (he : SI X xc W Γ e m .u) (h : PL X Γ a (.dk .fz) g pt) (hi : SP X Γ b fb kb)
    (hsw : swapsWith e (some (.Subscript a b p3)) pos.line X.env = pure false := by rfl) :
    SS X xc W np Γ rk (.Assign [.Subscript a b p3] e pos) (qDo m fun d env => (g env).bind fun l => (fb env).bind fun j => (dpD j d l).bind fun l' => pt l' env) := by
  obtain ⟨t, p, q⟩ := he.ex
  obtain ⟨t1, p1, q1⟩ := h.ex
  obtain ⟨t2, pb, q2⟩ := hi.ex
  refine ⟨_, ps_dput hu p1 pb p hsw, fun D σ H env fp Z fl env' E hf hQ => ?_⟩
  unfold qDo at hf
  split at hf
  · rename_i d e1 h1
    obtain ⟨e2, h2, z⟩ := Option.map_eq_some_iff.mp hf
    cases z
    obtain ⟨l, hl, h2⟩ := Option.bind_eq_some_iff.mp h2
    obtain ⟨j, hj, h2⟩ := Option.bind_eq_some_iff.mp h2
    obtain ⟨l', hl', hp⟩ := Option.bind_eq_some_iff.mp h2
    refine q σ H _ env fp Z _ e1 E h1 fun H1 f1 E1 x1 v hv => ?_
    refine q1 σ H1 _ e1 f1 Z l E1 hl fun ov H2 s2 A => q2 σ H2 _ e1 f1 Z j (E1.same s2) hj fun w H3 s3 hw => ?_
    obtain ⟨a', ks, vs, ds, rfl, rfl, ha', lkv, rr, cont⟩ := (A.mono s3).dset
    obtain ⟨k, hk, hl'⟩ := Option.bind_eq_some_iff.mp (show (asK j).bind _ = some l' from hl')
    split at hl'
    · rename_i hlen
      cases hl'
      have ew := asK_ok hk hw.rep
      subst ew
      obtain ⟨fp', E3, x3⟩ := cont (dpk ks k) (dpv ks vs k v) (dpv ks ds k d) _ (dp_len lkv) (rr.dpv (Rep.mono (hid_mono (s2.trans s3)) hv)) hp
      refine ⟨_, _, rfl, DPut.k ha' (by rw [List.length_zip, ← lkv, Nat.min_self]; exact hlen), ?_⟩
      rw [putK_zip lkv]
      exact hQ σ _ fp' E3 ((x1.trans (Ext.same (s2.trans s3))).trans x3) Prot.refl
    · cases hl'
  · rename_i cc dd e1 h1
    cases hf
    exact q σ H _ env fp Z _ env' E h1 fun H1 f1 E1 x1 cls od hx => hQ σ H1 f1 E1 x1 Prot.refl cls od hx
  · cases hf
/-- p.pop(k, x), p a dict -/
def drk : List Key → Key → List Key
  | [], _ => []
  | j :: ks, k => if j = k then drk ks k else j :: drk ks k
def drv {α : Type} : List Key → List α → Key → List α
  | j :: ks, x :: xs, k => if j = k then drv ks xs k else x :: drv ks xs k
  | _, _, _ => []
theorem drop_zip : ∀ {ks : List Key} {vs : List V} {k : Key}, dropK (ks.zip vs) k = (drk ks k).zip (drv ks vs k)
  | [], vs, k => by cases vs <;> rfl
  | j :: ks, [], k => by
    show [] = (drk (j :: ks) k).zip []
    rw [List.zip_nil_right]
  | j :: ks, v :: vs, k => by
    show (List.filter (fun kv : Key × V => decide (kv.1 ≠ k)) ((j, v) :: ks.zip vs)) = (if j = k then drk ks k else j :: drk ks k).zip (if j = k then drv ks vs k else v :: drv ks vs k)
    have ih := drop_zip (ks := ks) (vs := vs) (k := k)
    unfold dropK at ih
    by_cases c : j = k
    · rw [if_pos c, if_pos c, List.filter_cons_of_neg (by simp [c])]; exact ih
    · rw [if_neg c, if_neg c, List.filter_cons_of_pos (by simp [c]), List.zip_cons_cons, ih]
theorem dr_len {α : Type} : ∀ {ks : List Key} {vs : List α} {k : Key}, ks.length = vs.length → (drk ks k).length = (drv ks vs k).length
  | [], [], k, _ => rfl
  | j :: ks, v :: vs, k, h => by
    show (if j = k then drk ks k else j :: drk ks k).length = (if j = k then drv ks vs k else v :: drv ks vs k).length
    have ih := dr_len (ks := ks) (vs := vs) (k := k) (by simpa using h)
    by_cases c : j = k
    · rw [if_pos c, if_pos c]; exact ih
    · rw [if_neg c, if_neg c, List.length_cons, List.length_cons, ih]
  | [], _ :: _, _, h => nomatch h
  | _ :: _, [], _, h => nomatch h
theorem Reps.drv {K : PySem.W.Frag} {G : Hp} {k : Key} : ∀ {ks : List Key} {vs : List V} {ds : List D}, Reps K G vs ds → Reps K G (Py.drv ks vs k) (Py.drv ks ds k)
  | [], _, _, .nil => .nil
  | [], _, _, .cons _ _ => .nil
  | _ :: _, _, _, .nil => .nil
  | j :: ks, v :: vs, d :: ds, .cons h r => by
    show Reps K G (if j = k then Py.drv ks vs k else v :: Py.drv ks vs k) (if j = k then Py.drv ks ds k else d :: Py.drv ks ds k)
    by_cases c : j = k
    · rw [if_pos c, if_pos c]; exact Reps.drv r
    · rw [if_neg c, if_neg c]; exact .cons h (Reps.drv r)
def dpopP (g : En → Option D) (pt : D → En → Option En) (fb fc : En → Option D) : IE := fun env => (g env).bind fun l => (fb env).bind fun j => (fc env).bind fun z => match l with
  | .dic ks ds => (asK j).bind fun k => match dlk ks ds k with
    | some d => (pt (.dic (drk ks k) (drv ks ds k)) env).map fun e => (.ok d, e)
    | none => some (.ok z, env)
  | _ => none
theorem si_dpop2 (h : PL X Γ o (.dk .fz) g pt) (hb : SP X Γ a fb ka) (hc : SP X Γ b fc .u) (mt : M2 X o "pop" apos a b cpos := by exact ⟨rfl, rfl, rfl, rfl⟩) : SI X xc W Γ (.Call (.Attribute o "pop" apos) [a, b] [] cpos) (dpopP g pt fb fc) .u := by
  obtain ⟨t, p, q⟩ := h.ex
  obtain ⟨t1, p1, q1⟩ := hb.ex
  obtain ⟨t2, p2, q2⟩ := hc.ex
  refine ⟨_, pe_dpop2 p p1 p2 mt, fun σ H Q env fp Z rr env' E hf hQ => ?_⟩
  obtain ⟨l, hl, hf⟩ := Option.bind_eq_some_iff.mp hf
  obtain ⟨j, hj, hf⟩ := Option.bind_eq_some_iff.mp hf
  obtain ⟨z, hz, hf⟩ := Option.bind_eq_some_iff.mp hf
  refine q σ H _ env fp Z l E hl fun v H1 s1 A => ?_
  obtain ⟨a1, ks1, vs1, ds1, rfl, rfl, ha1, _⟩ := A.dset
  refine ⟨a1, rfl, .inl ⟨_, .inl ha1⟩, q1 σ H1 _ env fp Z j (E.same s1) hj fun y H2 s2 hy => q2 σ H2 _ env fp Z z (E.same (s1.trans s2)) hz fun w H3 s3 hw => ?_⟩
  obtain ⟨a2, ks, vs, ds, e1, e2, ha, lkv, rr, cont⟩ := (A.mono (s2.trans s3)).dset
  cases e1
  cases e2
  obtain ⟨k, hk, hf⟩ := Option.bind_eq_some_iff.mp hf
  have ek := asK_ok hk hy.rep
  subst ek
  have zz := rr.dlk (ks := ks1) (k := k)
  refine ⟨_, k, ha, rfl, fun v hv => ?_, fun hv => ?_⟩
  · rw [valV_zip] at hv
    split at hf
    · rename_i d hd
      obtain ⟨e, hp, z'⟩ := Option.map_eq_some_iff.mp hf
      cases z'
      rw [hd] at zz
      obtain ⟨v', h1, h2⟩ := zz
      rw [hv] at h1; cases h1
      obtain ⟨fp', E2, x2⟩ := cont (drk ks1 k) (drv ks1 vs k) (drv ks1 ds1 k) _ (dr_len lkv) rr.drv hp
      rw [drop_zip]
      exact hQ _ fp' E2 ((Ext.same (s1.trans (s2.trans s3))).trans x2) _ (Rep.mono x2.hid h2)
    · rename_i hd
      rw [hd] at zz
      rw [show dlk ks1 vs k = none from zz] at hv
      cases hv
  · rw [valV_zip] at hv
    split at hf
    · rename_i d hd
      rw [hd] at zz
      obtain ⟨v', h1, h2⟩ := zz
      rw [hv] at h1; cases h1
    · cases hf
      exact hQ H3 fp (E.same (s1.trans (s2.trans s3))) (Ext.same (s1.trans (s2.trans s3))) w hw
/-! ### fields are set -/
theorem qp_setF (C : ClF X.K c fl) (he : SI X xc W Γ e m .u) (h : PL X Γ o (.ob c r) g pt) (hr : r.fld f = .fz := by rfl) (hf : fl.contains f = true := by rfl) (hs : swapsWith e (some (.Attribute o f p3)) pos.line X.env = pure false := by rfl) :
    SS X xc W np Γ rk (.Assign [.Attribute o f p3] e pos) (qDo m fun d env => (g env).bind fun l => (putO f d l).bind fun l' => pt l' env) := by
  obtain ⟨t, p, q⟩ := he.ex
  obtain ⟨t1, p1, q1⟩ := h.ex
  refine ⟨_, ps_fld p1 p hs, fun D σ H env fp Z fl env' E hx hQ => ?_⟩
  unfold qDo at hx
  split at hx
  · rename_i d e1 h1
    obtain ⟨e2, h2, z⟩ := Option.map_eq_some_iff.mp hx
    cases z
    obtain ⟨l, hl, h2⟩ := Option.bind_eq_some_iff.mp h2
    obtain ⟨l', hl', hp⟩ := Option.bind_eq_some_iff.mp h2
    refine q σ H _ env fp Z _ e1 E h1 fun H1 f1 E1 x1 v hv => ?_
    refine q1 σ H1 _ e1 f1 Z l E1 hl fun ov H2 s2 A => ?_
    obtain ⟨a, dx, fs, vs, ds, rfl, rfl, ha, hdx, l1, l2, cont, _⟩ := A.oset
    unfold putO at hl'
    simp only at hl'
    split at hl'
    · rename_i hlen
      cases hl'
      obtain ⟨fp', E3, x3⟩ := cont f v d _ hr (Rep.mono (hid_mono s2) hv) hp
      exact ⟨a, _, dx, _, rfl, ha, C.cls, C.na f (by simpa using hf), by rw [List.length_zip, ← l1, Nat.min_self]; exact hlen, hQ σ _ fp' E3 ((x1.trans (Ext.same s2)).trans x3) Prot.refl⟩
    · cases hl'
  · rename_i cc dd e1 h1
    cases hx
    exact q σ H _ env fp Z _ env' E h1 fun H1 f1 E1 x1 cls od hx => hQ σ H1 f1 E1 x1 Prot.refl cls od hx
  · cases hx
theorem qp_setN (C : ClF X.K c fl) (he : SI X xc W Γ e m (.nw (r.fld f))) (h : PL X Γ o (.ob c r) g pt) (hf : fl.contains f = true := by rfl) (hs : swapsWith e (some (.Attribute o f p3)) pos.line X.env = pure false := by rfl) :
    SS X xc W np Γ rk (.Assign [.Attribute o f p3] e pos) (qDo m fun d env => (g env).bind fun l => (putO f d l).bind fun l' => pt l' env) := by
  obtain ⟨t, p, q⟩ := he.ex
  obtain ⟨t1, p1, q1⟩ := h.ex
  refine ⟨_, ps_fld p1 p hs, fun D σ H env fp Z fl env' E hx hQ => ?_⟩
  unfold qDo at hx
  split at hx
  · rename_i d e1 h1
    obtain ⟨e2, h2, z⟩ := Option.map_eq_some_iff.mp hx
    cases z
    obtain ⟨l, hl, h2⟩ := Option.bind_eq_some_iff.mp h2
    obtain ⟨l', hl', hp⟩ := Option.bind_eq_some_iff.mp h2
    refine q σ H _ env fp Z _ e1 E h1 fun H1 f1 E1 x1 v hv => ?_
    obtain ⟨fn, fr, nn, tr, E2⟩ := hv
    refine q1 σ H1 _ e1 f1 (fn ++ Z) l E2 hl fun ov H2 s2 A => ?_
    obtain ⟨a, dx, fs, vs, ds, rfl, rfl, ha, hdx, l1, l2, _, cont⟩ := A.oset
    unfold putO at hl'
    simp only at hl'
    split at hl'
    · rename_i hlen
      cases hl'
      obtain ⟨fp', E3, x3⟩ := cont f v d _ fn Z rfl (tr.mono (hid_mono s2) fun b _ o h => s2 b o h) nn (fun b hb => (fr b hb).2) hp
      exact ⟨a, _, dx, _, rfl, ha, C.cls, C.na f (by simpa using hf), by rw [List.length_zip, ← l1, Nat.min_self]; exact hlen, hQ σ _ fp' E3 (((x1.more fun b hb => (fr b hb).1).trans (Ext.same s2)).trans x3) Prot.refl⟩
    · cases hl'
  · rename_i cc dd e1 h1
    cases hx
    exact q σ H _ env fp Z _ env' E h1 fun H1 f1 E1 x1 cls od hx => hQ σ H1 f1 E1 x1 Prot.refl cls od hx
  · cases hx
/-- o.f += e -/
def augF (f : Str) (op : D → D → Option D) (y : D) (l : D) : Option D := (fldD f l).bind fun x => (op x y).bind fun z => putO f z l
def IpOk (rd : V → V → Hp → VK → Prop) (op : D → D → Option D) : Prop := ∀ x y z, op x y = some z → z.flat = true ∧ ∀ (v w : V) (K : PySem.W.Frag) (G : Hp) (H : Hp) (Q : VK), Rep K G v x → Rep K G w y → Q z.v H → rd v w H Q
theorem ipo_add : IpOk rAdd adI := fun x y z h => by
  cases x <;> cases y <;> first | (cases h; done) | skip
  cases h
  exact ⟨rfl, fun v w K G H Q hv hw q => by cases hv; cases hw; exact ⟨_, _, rfl, rfl, q⟩⟩
theorem ipo_sub : IpOk rSub sbI := fun x y z h => by
  cases x <;> cases y <;> first | (cases h; done) | skip
  cases h
  exact ⟨rfl, fun v w K G H Q hv hw q => by cases hv; cases hw; exact ⟨_, _, rfl, rfl, q⟩⟩
theorem qp_augF {op : Operator} {rd : V → V → Hp → VK → Prop} {od : D → D → Option D} (C : ClF X.K c fl) (hop : InOp X op rd) (ho : IpOk rd od) (h : PL X Γ o (.ob c r) g pt) (he : SP X Γ e fa .u) (hr : r.fld f = .fz := by rfl) (hf : fl.contains f = true := by rfl) :
    SS X xc W np Γ rk (.AugAssign (.Attribute o f p3) op e pos) (qPl g (fun env l => (fa env).bind fun y => augF f od y l) pt) := by
  obtain ⟨t, p, q⟩ := h.ex
  obtain ⟨t2, p2, q2⟩ := he.ex
  refine ⟨_, ps_fldaug p p2 hop, fun D σ H env fp Z fl env' E hx hQ => ?_⟩
  obtain ⟨rfl, l, l', hl, hop', hp⟩ := qPl_ok hx
  obtain ⟨y, hy, hop'⟩ := Option.bind_eq_some_iff.mp hop'
  obtain ⟨x, hx', hop'⟩ := Option.bind_eq_some_iff.mp hop'
  obtain ⟨z, hz, hop'⟩ := Option.bind_eq_some_iff.mp hop'
  obtain ⟨fz, hrd⟩ := ho x y z hz
  refine q σ H _ env fp Z l E hl fun v H1 s1 A => ?_
  obtain ⟨a, dx, fs, vs, ds, rfl, rfl, ha, hdx, l1, l2, _⟩ := A.oset
  obtain ⟨k, u, hk, hu, hdk, lk⟩ := fld_at (c := c) (K := X.K) (G := H1) l1 l2 hx'
  have ru : Rep X.K (hid (fp ++ Z) H1) u x := by
    have E1 := E.same s1
    have A2 := A.sub (w := fun _ => stF f (.obj c fs ds)) E1.ok E1.dj (Dec.field ha l1 hk hu hdk)
    obtain ⟨f2, rest, tr, _⟩ := A2
    rw [hr] at tr
    cases tr with
    | fz h => exact h
  refine ⟨a, _, dx, _, u, rfl, ha, C.cls, C.na f (by simpa using hf), lk, q2 σ H1 _ env fp Z y (E.same s1) hy fun w H2 s2 hw => ?_⟩
  refine hrd u w X.K _ H2 _ (Rep.mono (hid_mono s2) ru) hw ?_
  obtain ⟨a2, dx2, fs2, vs2, ds2, e1, e2, ha2, _, l3, l4, cont, _⟩ := (A.mono s2).oset
  cases e1
  cases e2
  unfold putO at hop'
  simp only at hop'
  split at hop'
  · rename_i hlen
    cases hop'
    obtain ⟨fp', E3, x3⟩ := cont f z.v z _ hr (Rep.ofFlat fz) hp
    exact ⟨dx2, _, ha2, by rw [List.length_zip, ← l3, Nat.min_self]; exact hlen, hQ σ _ fp' E3 ((Ext.same (s1.trans s2)).trans x3) Prot.refl⟩
  · cases hop'
end
end Py

set_option Elab.async false
set_option linter.all false
set_option maxRecDepth 100000
set_option maxHeartbeats 4000000
/-! Own layer: calls with places; methods; new objects. -/
namespace Py
open PySem PySem.Spec PyProof.Rows L2
/-! ### methods, raising at the caller's slots -/
section
variable {X : Cx} {CX : CXT} {k : Nat} {f C : Addr} {fd : FuncData} {ps : List Str} {sp : Sp} {dvs : List V} {ds : List Value} {E : L2.St → XK} {x m : Str} {p pos apos : Pos} {e o : Expr} {es : List Expr} {ta : TE} {t : TA}
def tMethSD (C : Addr) (m : Str) (sp : Sp) (dvs : List V) (E : L2.St → XK) (ta : TE) (t : TA) : TE := fun σ H Q => ta σ H fun x H1 => ∃ a dx fs, x = .ref a ∧ H1 a = some (.ins C dx fs) ∧ fs.lookup m = none ∧
  t σ H1 fun vs H2 => sp (x :: (vs ++ dvs)) H2 Q (E σ)
theorem pe_methSD {pl : Sem Bool} (he : PE X o ta) (c : Cls X.K C) (hm : Meth X.K C m f) (F : FnOk X.prog X.w X.K X.mg X.base CX k f fd ps sp) (hr : Room k X.A) (hb : Binds X.K fd ps ds) (hd : Vals dvs ds) (hx : ∀ σ, PassesAt CX X σ (E σ)) (ha : PA X (e :: es) t)
    (hst : starEach (e :: es) X.env = (false, eval e X.env) :: starEach es X.env := by rfl) (hpl : (backTo pos (starEach es X.env)).any (·.1) = false := by rfl)
    (ht : eval (.Call (.Attribute o m apos) (e :: es) [] pos) X.env = (do
      let ov ← eval o X.env
      standAt apos.atName
      let (f, first) ← holding [ov] (getMethod ov m pl)
      callWith pos f first (backTo pos (starEach (e :: es) X.env)) (backToKw pos (keywordEach [] X.env))) := by rfl) :
    PE X (.Call (.Attribute o m apos) (e :: es) [] pos) (tMethSD C m sp dvs E ta t) := by
  refine ⟨fun pins s σ H Q I h => ?_⟩
  refine PySem.W.methodCall_KW (pl := pl) (thn (he.run pins s σ H _ I h) fun u s1 ⟨x, H1, I1, rx, a, dx, fs, ex, ea, l, q⟩ => ?_) ht
  subst ex
  obtain rfl : u = Value.ref a := rx
  refine getmeth_ok I1 ea c hm l ?_
  refine PySem.W.callWith_K (first := [.ref a]) (h₀ := X.base) I.ok.mod.kin hm.kp (thn (ha.run pos pins s1 σ H1 _ I1 q) fun us s2 ⟨vs, H2, I2, r, q2⟩ => ⟨I2.kIn, ?_⟩) hst hpl
  exact run_fnSD (us := .ref a :: us) (vs := .ref a :: vs) F hr hb hd (hx σ) I2 (.cons rfl r) q2
theorem pe_methSD0 {pl : Sem Bool} (he : PE X o ta) (c : Cls X.K C) (hm : Meth X.K C m f) (F : FnOk X.prog X.w X.K X.mg X.base CX k f fd ps sp) (hr : Room k X.A) (hb : Binds X.K fd ps ds) (hd : Vals dvs ds) (hx : ∀ σ, PassesAt CX X σ (E σ))
    (ht : eval (.Call (.Attribute o m apos) [] [] pos) X.env = (do
      let ov ← eval o X.env
      standAt apos.atName
      let (f, first) ← holding [ov] (getMethod ov m pl)
      callWith pos f first (backTo pos (starEach [] X.env)) (backToKw pos (keywordEach [] X.env))) := by rfl) :
    PE X (.Call (.Attribute o m apos) [] [] pos) (tMethSD C m sp dvs E ta tNil) := by
  refine ⟨fun pins s σ H Q I h => ?_⟩
  refine PySem.W.methodCall_KW (pl := pl) (thn (he.run pins s σ H _ I h) fun u s1 ⟨x, H1, I1, rx, a, dx, fs, ex, ea, l, q⟩ => ?_) ht
  subst ex
  obtain rfl : u = Value.ref a := rx
  refine getmeth_ok I1 ea c hm l ?_
  exact PySem.W.callWith_K0 (first := [.ref a]) I1.kIn hm.kp (run_fnSD (us := [.ref a]) (vs := [.ref a]) F hr hb hd (hx σ) I1 (.cons rfl .nil) q)
end
theorem flt_nil {α : Type} : ∀ (Γ : List Sh) (xs : List α), Γ.all Sh.isF = true → flt Γ xs = []
  | [], xs, _ => by cases xs <;> rfl
  | s0 :: Γ, xs, h => by
    have h' := Bool.and_eq_true_iff.mp (show (s0.isF && Γ.all Sh.isF) = true from h)
    have e : s0 = .fz := of_decide_eq_true h'.1
    subst e
    cases xs with
    | nil => rfl
    | cons x xs => exact flt_nil Γ xs h'.2
theorem flt_own {α : Type} {s : Sh} {Γ : List Sh} {x : α} {xs : List α} (hns : s ≠ .fz) (hf : Γ.all Sh.isF = true) : flt (s :: Γ) (x :: xs) = [x] := by
  cases s with
  | fz => exact absurd rfl hns
  | _ => show x :: flt Γ xs = [x]; rw [flt_nil Γ xs hf]
section
variable {X : Cx} {xc : Nat → Addr} {W : WX} {np : Nat} {Γ Γp : List Sh} {rk : Kd} {a b e o : Expr} {es : List Expr} {s : Sh} {c f m : Str} {r : Sh} {fl : List Str} {g fa fb fc : En → Option D} {fs : En → Option (List D)} {pt : D → En → Option En} {ka kb kc k : Kd} {ks : List Kd} {pos p2 p3 p4 apos cpos : Pos} {F : DF} {dfl : List D} {x : Str} {ps : List Str} {j kk : Nat}
/-- the call of a def whose first argument is a place -/
theorem at_call {env env' : En} {σ : L2.St} {H : Hp} {fp Z : List Addr} {v0 : V} {d0 o : D} {ws : List V} {es : List D} {out : Out} {Q : VK} {E : XK} (A : At X.K Γ pt s env σ H fp Z v0 d0) (E1 : EOk X.K Γ env σ H fp Z) (rr : Reps X.K (hid (fp ++ Z) H) ws es) (lG : Γp.length = es.length)
    (hf : Γp.all Sh.isF = true) (hns : s ≠ .fz) (hrk : rk.cu = true) (hFd : F (d0 :: es) = some (out, [o])) (hp : pt o env = some env')
    (hQ : ∀ H' f', EOk X.K Γ env' σ H' f' Z → Ext H fp H' f' → match out with
      | .rt d => ∀ v, HKE X.K Γ env' σ rk H fp f' Z H' v d → Q v H'
      | .ex c d => ∀ cls od, XOk X.K xc f' Z c d cls od H' → E cls od H') : spD X.K xc (s :: Γp) rk F (v0 :: ws) H Q E := by
  obtain ⟨f2, rest, tr, n2, in2, hrest, hsp, cont⟩ := A
  have inf : ∀ b, b ∈ f2 ++ (rest ++ Z) → b ∈ fp ++ Z := fun b hb => by
    rcases List.mem_append.mp hb with z | z
    · exact List.mem_append_left _ (in2 b z)
    · rcases List.mem_append.mp z with z | z
      · exact List.mem_append_left _ (hrest b z).1
      · exact List.mem_append_right _ z
  have okA : EOk X.K (s :: Γp) ((d0 :: es).map some) ((v0 :: ws).map some) H f2 (rest ++ Z) := by
    have r2 := rr.mono (hid_less inf)
    have lw : Γp.length = ws.length := by rw [lG, ← rr.length]
    refine ⟨⟨f2, ?_, n2, fun b hb => hb⟩, fun b hb z => ?_, fun b hb => E1.ok b (inf b hb)⟩
    · have z := TrE.has (tr.mono (hid_less inf) fun _ _ _ h => h) (TrE.ofReps (H := H) r2)
      rw [List.append_nil, ← lw, ← allF hf] at z
      exact z
    · rcases List.mem_append.mp z with z | z
      · exact (hrest b z).2 hb
      · exact E1.dj b (in2 b hb) z
  refine ⟨_, f2, rest ++ Z, out, [o], okA, hFd, fun H' fc Eo x => ?_⟩
  rw [flt_own hns hf, flt_own hns hf] at Eo
  rw [flt_own hns hf, flt_own hns hf]
  have treeOf : ∀ {Y : List Addr}, EOk X.K [s] [some o] [some v0] H' fc (Y ++ (rest ++ Z)) → (∃ fn, Tr X.K H' (hid (fc ++ ([] ++ (rest ++ (Y ++ Z)))) H') s v0 o fn ∧ fn.Nodup ∧ ∀ b ∈ fn, b ∈ fc ∨ b ∈ ([] : List Addr)) := fun {Y} E2 => by
    obtain ⟨fq, t, n, i⟩ := E2.ex
    cases t with
    | has t r =>
      cases r
      rw [List.append_nil] at n i
      refine ⟨_, t.mono (hid_less fun b hb => ?_) fun _ _ _ h => h, n, fun b hb => .inl (i b hb)⟩
      rcases List.mem_append.mp hb with z | z
      · exact List.mem_append_left _ z
      · rcases List.mem_append.mp z with z | z
        · cases z
        · rcases List.mem_append.mp z with z | z
          · exact List.mem_append_right _ (List.mem_append_right _ (List.mem_append_left _ z))
          · rcases List.mem_append.mp z with z | z
            · exact List.mem_append_right _ (List.mem_append_left _ z)
            · exact List.mem_append_right _ (List.mem_append_right _ (List.mem_append_right _ z))
  have okc : ∀ b ∈ fc, ∃ o, H' b = some o ∧ NT o := fun b hb => Eo.ok b (List.mem_append_left _ hb)
  have E3 := cont H' fc [] [] Z o env' rfl (fun _ z => nomatch z) (fun _ z => nomatch z) x (treeOf (Y := []) Eo) okc hp
  have x3 := ext_at x in2 hrest [] fun _ z => nomatch z
  have q := hQ H' (fc ++ rest) E3 x3
  have less : ∀ b ∈ (fc ++ rest) ++ Z, b ∈ fc ++ (rest ++ Z) := fun b hb => by rw [List.append_assoc] at hb; exact hb
  cases out with
  | ex c d => exact fun cls od hx => q cls od (hx.mono less)
  | rt d =>
    refine fun v hv => q v ?_
    cases rk with
    | u => exact Rep.mono (hid_less less) hv
    | t => cases hrk
    | vw s' =>
      cases s' with
      | fz =>
        obtain ⟨fv, z1, z2, t⟩ := hv
        cases t with
        | fz t => exact ⟨[], fun _ z => (nomatch z), List.nodup_nil, .fz (t.mono (hid_less less))⟩
      | _ => cases hrk
    | nw s' =>
      obtain ⟨fn, z1, z2, t, Eo2⟩ := hv
      have E4 : EOk X.K Γ env' σ H' (fc ++ rest) (fn ++ Z) :=
        cont H' fc fn [] Z o env' rfl (fun _ z => nomatch z) (fun b hb => ⟨(z1 b hb).1.symm, fun z => (z1 b hb).2 (List.mem_append_left _ z), t.there b hb⟩) x (treeOf (Y := fn) Eo2) okc hp
      refine ⟨fn, fun b hb => ⟨(z1 b hb).1.imp_left (in2 b), fun z => (z1 b hb).2 (less b z)⟩, z2, t.mono (hid_less fun b hb => ?_) fun _ _ _ h => h, E4⟩
      exact (List.mem_append.mp hb).elim (fun w => List.mem_append_left _ w) fun w => List.mem_append_right _ (less b w)
def outR : Out → Rs
  | .rt d => .ok d
  | .ex c d => .ex c d
/-- a call whose first argument is a place -/
def oCP (g : En → Option D) (pt : D → En → Option En) (fs : En → Option (List D)) (F : DF) (dfl : List D) : IE := fun env => (g env).bind fun d0 => (fs env).bind fun ds => match F (d0 :: (ds ++ dfl)) with
  | some (.rt d, [o]) => (pt o env).map fun e => (.ok d, e)
  | some (.ex c d, [o]) => (pt o env).map fun e => (.ex c d, e)
  | _ => none
theorem oCP_ok {env env' : En} {rr : Rs} (h : oCP g pt fs F dfl env = some (rr, env')) : ∃ d0 ds out o, g env = some d0 ∧ fs env = some ds ∧ F (d0 :: (ds ++ dfl)) = some (out, [o]) ∧ pt o env = some env' ∧ rr = outR out := by
  obtain ⟨d0, h1, h⟩ := Option.bind_eq_some_iff.mp h
  obtain ⟨ds, h2, h⟩ := Option.bind_eq_some_iff.mp h
  split at h
  · rename_i d o hF
    obtain ⟨e, hp, z⟩ := Option.map_eq_some_iff.mp h
    cases z
    exact ⟨d0, ds, _, o, h1, h2, hF, hp, rfl⟩
  · rename_i c d o hF
    obtain ⟨e, hp, z⟩ := Option.map_eq_some_iff.mp h
    cases z
    exact ⟨d0, ds, _, o, h1, h2, hF, hp, rfl⟩
  · cases h
theorem hks_len {K : PySem.W.Frag} {H H1 : Hp} {fp Z : List Addr} : ∀ {ks : List Kd} {vs : List V} {ds : List D}, HKs K H fp Z H1 ks vs ds → ks.length = ds.length
  | _, _, _, .nil => rfl
  | _, _, _, .cons _ h => by simp [hks_len h]
/-- what is common to the calls below -/
theorem at_sem {env env' : En} {rr : Rs} {σ : L2.St} {H H2 : Hp} {fp Z : List Addr} {v0 : V} {d0 : D} {vs : List V} {ds : List D} {out : Out} {o : D} {Q : VK} (E : EOk X.K Γ env σ H fp Z) (s2 : Sub H H2) (A : At X.K Γ pt s env σ H2 fp Z v0 d0) (hv : HKs X.K H fp Z H2 ks vs ds) (hf : Γp.all Sh.isF = true) (hns : s ≠ .fz) (hrk : rk.cu = true) (hks : ks.all Kd.cu = true) (hlen : Γp.length = ks.length + dfl.length) (hfl : dfl.all D.flat = true)
    (hFd : F (d0 :: (ds ++ dfl)) = some (out, [o])) (hp : pt o env = some env') 
    (hQ : ∀ H' fp', EOk X.K Γ env' σ H' fp' Z → Ext H fp H' fp' → match rr with
      | .ok d => ∀ v, HKE X.K Γ env' σ rk H fp fp' Z H' v d → Q v H'
      | .ex c d => ∀ cls od, XOk X.K xc fp' Z c d cls od H' → W cls od σ H') (ho : rr = outR out) : spD X.K xc (s :: Γp) rk F (v0 :: (vs ++ dfl.map D.v)) H2 Q (WE W σ) := by
  refine at_call A (E.same s2) ((hv.repsU hks).append (Reps.flats hfl)) (by rw [hlen, List.length_append, hks_len hv]) hf hns hrk hFd hp fun H' f' E' x' => ?_
  have q := hQ H' f' E' ((Ext.same (fp := fp) s2).trans x')
  cases out with
  | rt d => subst ho; exact fun v hv => q v (hv.back (Ext.same (fp := fp) s2))
  | ex c d => subst ho; exact q
theorem si_callP (h : Df X.prog X.w X.K X.mg X.base xc j x ps (s :: Γp) rk F dfl) (hr : Room kk X.A) (tk : Takes X W) (ho : PL X Γ o s g pt) (ha : SAs X Γ es fs ks) (hj : j ≤ kk := by decide) (hns : s ≠ .fz := by decide) (hgl : Gl X x := by rfl) (hf : Γp.all Sh.isF = true := by rfl) (hrk : rk.cu = true := by rfl) (hks : ks.all Kd.cu = true := by rfl) (hlen : Γp.length = ks.length + dfl.length := by rfl)
    (hdb : (x == ("__debug__" : Str)) = false := by decide) (he : starEach (o :: es) X.env = (false, eval o X.env) :: starEach es X.env := by rfl) (hpl : (backTo pos (starEach es X.env)).any (·.1) = false := by rfl) : SI X xc W Γ (.Call (.Name x p2) (o :: es) [] pos) (oCP g pt fs F dfl) rk := by
  obtain ⟨f, fd, dv, hm, G, kp, hb, hd, hfl⟩ := h.ex
  obtain ⟨t, p, q⟩ := ha.ex
  obtain ⟨t0, p0, q0⟩ := ho.ex
  refine ⟨_, pe_callSD G (hr.mono hj) hgl hm kp hb hd (fun σ => passAt tk σ) (pa_cons p0 p he) hdb he hpl, fun σ H Q env fp Z rr env' E hF hQ => ?_⟩
  obtain ⟨d0, ds, out, o', h1, h2, hFd, hp, hout⟩ := oCP_ok hF
  refine q0 σ H _ env fp Z d0 E h1 fun v0 H1 s1 A => q σ H1 _ env fp Z ds (E.same s1) h2 fun vs H2 s2 hv => ?_
  exact at_sem E (s1.trans s2) (A.mono s2) (hv.less s1) hf hns hrk hks hlen hfl hFd hp hQ hout
/-! ### methods -/
/-- a method of a class by its name -/
structure Dm (P : Program) (w : World) (K : PySem.W.Frag) (mg : Str → Option Value) (base : Heap) (xc : Nat → Addr) (k : Nat) (c m : Str) (ps : List Str) (Γp : List Sh) (rk : Kd) (F : DF) (dfl : List D) : Prop where
  ex : ∃ (f : Addr) (fd : FuncData) (ds : List Value), Meth K (He.ga K c) m f ∧ FnOk P w K mg base (L2.CX P w) k f fd ps (spD K xc Γp rk F) ∧ Binds K fd ps ds ∧ Vals (dfl.map D.v) ds ∧ dfl.all D.flat = true
def noF (m : Str) : D → Bool
  | .obj _ fs _ => !fs.contains m
  | _ => false
theorem lookup_no {m : Str} : ∀ {fs : List Str} {vs : List V}, fs.contains m = false → (fs.zip vs).lookup m = none
  | [], _, _ => rfl
  | _ :: _, [], _ => rfl
  | g :: fs, v :: vs, h => by
    rw [List.contains_cons, Bool.or_eq_false_iff] at h
    show (match m == g with
      | true => some v
      | false => (fs.zip vs).lookup m) = none
    rw [h.1]
    exact lookup_no h.2
/-- o.m(..), o a place that may be changed -/
def oCM (m : Str) (g : En → Option D) (pt : D → En → Option En) (fs : En → Option (List D)) (F : DF) (dfl : List D) : IE := fun env => if ((g env).map (noF m)) = some true then oCP g pt fs F dfl env else none
theorem si_meth {pl : Sem Bool} (C : ClF X.K c fl) (h : Dm X.prog X.w X.K X.mg X.base xc j c m ps (.ob c r :: Γp) rk F dfl) (hr : Room kk X.A) (tk : Takes X W) (ho : PL X Γ o (.ob c r) g pt) (ha : SAs X Γ (e :: es) fs ks) (hj : j ≤ kk := by decide) (hf : Γp.all Sh.isF = true := by rfl) (hrk : rk.cu = true := by rfl) (hks : ks.all Kd.cu = true := by rfl) (hlen : Γp.length = ks.length + dfl.length := by rfl)
    (hst : starEach (e :: es) X.env = (false, eval e X.env) :: starEach es X.env := by rfl) (hpl : (backTo pos (starEach es X.env)).any (·.1) = false := by rfl)
    (ht : eval (.Call (.Attribute o m apos) (e :: es) [] pos) X.env = (do
      let ov ← eval o X.env
      standAt apos.atName
      let (f, first) ← holding [ov] (getMethod ov m pl)
      callWith pos f first (backTo pos (starEach (e :: es) X.env)) (backToKw pos (keywordEach [] X.env))) := by rfl) : SI X xc W Γ (.Call (.Attribute o m apos) (e :: es) [] pos) (oCM m g pt fs F dfl) rk := by
  obtain ⟨f, fd, dv, hm, G, hb, hd, hfl⟩ := h.ex
  obtain ⟨t, p, q⟩ := ha.ex
  obtain ⟨t0, p0, q0⟩ := ho.ex
  refine ⟨_, pe_methSD p0 C.cls hm G (hr.mono hj) hb hd (fun σ => passAt tk σ) p hst hpl ht, fun σ H Q env fp Z rr env' E hF hQ => ?_⟩
  unfold oCM at hF
  split at hF
  · rename_i hno
    obtain ⟨d0, ds, out, o', h1, h2, hFd, hp, hout⟩ := oCP_ok hF
    rw [h1] at hno
    refine q0 σ H _ env fp Z d0 E h1 fun v0 H1 s1 A => ?_
    obtain ⟨a, dx, fs', vs', ds', rfl, rfl, ha, _, l1, _⟩ := A.oset
    refine ⟨a, dx, _, rfl, ha, lookup_no (by simpa [noF] using hno), q σ H1 _ env fp Z ds (E.same s1) h2 fun vs H2 s2 hv => ?_⟩
    exact at_sem E (s1.trans s2) (A.mono s2) (hv.less s1) hf (fun z => nomatch z) hrk hks hlen hfl hFd hp hQ hout
  · cases hF
theorem si_meth0 {pl : Sem Bool} (C : ClF X.K c fl) (h : Dm X.prog X.w X.K X.mg X.base xc j c m ps (.ob c r :: Γp) rk F dfl) (hr : Room kk X.A) (tk : Takes X W) (ho : PL X Γ o (.ob c r) g pt) (hj : j ≤ kk := by decide) (hf : Γp.all Sh.isF = true := by rfl) (hrk : rk.cu = true := by rfl) (hlen : Γp.length = dfl.length := by rfl)
    (ht : eval (.Call (.Attribute o m apos) [] [] pos) X.env = (do
      let ov ← eval o X.env
      standAt apos.atName
      let (f, first) ← holding [ov] (getMethod ov m pl)
      callWith pos f first (backTo pos (starEach [] X.env)) (backToKw pos (keywordEach [] X.env))) := by rfl) : SI X xc W Γ (.Call (.Attribute o m apos) [] [] pos) (oCM m g pt a0 F dfl) rk := by
  obtain ⟨f, fd, dv, hm, G, hb, hd, hfl⟩ := h.ex
  obtain ⟨t0, p0, q0⟩ := ho.ex
  refine ⟨_, pe_methSD0 p0 C.cls hm G (hr.mono hj) hb hd (fun σ => passAt tk σ) ht, fun σ H Q env fp Z rr env' E hF hQ => ?_⟩
  unfold oCM at hF
  split at hF
  · rename_i hno
    obtain ⟨d0, ds, out, o', h1, h2, hFd, hp, hout⟩ := oCP_ok hF
    rw [h1] at hno
    cases h2
    refine q0 σ H _ env fp Z d0 E h1 fun v0 H1 s1 A => ?_
    obtain ⟨a, dx, fs', vs', ds', rfl, rfl, ha, _, l1, _⟩ := A.oset
    refine ⟨a, dx, _, rfl, ha, lookup_no (by simpa [noF] using hno), ?_⟩
    have hv : HKs X.K H fp Z H1 [] [] [] := .nil
    exact at_sem E s1 A hv hf (fun z => nomatch z) hrk rfl (by rw [hlen]; simp) hfl hFd hp hQ hout
  · cases hF
/-! a method that only reads -/
def mC (m : Str) (g : En → Option D) (fs : En → Option (List D)) (F : DF) (dfl : List D) : En → Option D := fun env => (g env).bind fun d0 => if noF m d0 = true then (fs env).bind fun ds => cD F dfl (d0 :: ds) else none
def isC (c : Str) : D → Bool
  | .obj c0 _ _ => decide (c0 = c)
  | _ => false
theorem rep_noF {K : PySem.W.Frag} {G : Hp} {v : V} {d : D} {c : Str} (h : Rep K G v d) (hn : noF m d = true) (hc : isC c d = true) : ∃ a dx kvs, v = .ref a ∧ G a = some (.ins (He.ga K c) dx kvs) ∧ kvs.lookup m = none := by
  cases h with
  | @obj a dx c0 fs xs ds ha hl r =>
    have e := of_decide_eq_true hc
    subst e
    exact ⟨a, dx, _, rfl, ha, lookup_no (by simpa [noF] using hn)⟩
  | _ => cases hn
def mR (c m : Str) (g : En → Option D) (fs : En → Option (List D)) (F : DF) (dfl : List D) : En → Option D := fun env => (g env).bind fun d0 => if (noF m d0 && isC c d0) = true then (fs env).bind fun ds => cD F dfl (d0 :: ds) else none
/-- reading calls: the semantics -/
theorem rd_call {σ : L2.St} {H H2 : Hp} {env : En} {fp Z : List Addr} {v0 : V} {d0 d : D} {vs : List V} {ds : List D} {Q : VK} {EE : XK} (E : EOk X.K Γ env σ H fp Z) (s2 : Sub H H2) (r0 : Rep X.K H2 v0 d0) (hv : HKs X.K H fp Z H2 ks vs ds) (hf : Γp.all Sh.isF = true) (hlen : Γp.length = ks.length + dfl.length) (hfl : dfl.all D.flat = true) (hF : cD F dfl (d0 :: ds) = some d)
    (hQ : ∀ (v : V) (H' : Hp), Sub H2 H' → (∀ s', rk = .nw s' → ∃ fn, (∀ b ∈ fn, H2 b = none) ∧ fn.Nodup ∧ Tr X.K H' (hid fn H') s' v d fn) → Rep X.K H' v d → Q v H') : spD X.K xc (.fz :: Γp) rk F (v0 :: (vs ++ dfl.map D.v)) H2 Q EE := by
  unfold cD at hF
  split at hF
  · rename_i d1 os hF1
    cases hF
    have e0 : hid [] H2 = H2 := funext fun b => hid_of (O := []) (by simp)
    refine ⟨(d0 :: ds) ++ dfl, [], [], _, _, EOk.args (O := []) (Γp := .fz :: Γp) (by show (Sh.isF .fz && Γp.all Sh.isF) = true; rw [hf]; rfl) (by rw [List.length_cons, hlen, List.length_append, List.length_cons, hks_len hv]; omega) ?_ (by simp), hF1, fun H' f' Eo x => ?_⟩
    · rw [e0]
      exact .cons r0 (hv.reps.append (Reps.flats hfl))
    · intro v hv
      have s3 : Sub H2 H' := fun b o h => x.keep b o h (by simp)
      refine hQ v H' s3 (fun s' e => ?_) hv.hk.rep
      subst e
      obtain ⟨fn, z1, z2, t, _⟩ := hv
      exact ⟨fn, fun b hb => (z1 b hb).1.elim (fun z => nomatch z) id, z2, t.mono (hid_less fun b hb => List.mem_append_left _ hb) fun _ _ _ h => h⟩
  · cases hF
theorem s_methW {pl : Sem Bool} (C : ClF X.K c fl) (h : Dm X.prog X.w X.K X.mg X.base xc j c m ps (.fz :: Γp) rk F dfl) (hr : Room kk X.A) (ho : SP X Γ o g k) (ha : SAs X Γ (e :: es) fs ks) (hj : j ≤ kk := by decide) (hf : Γp.all Sh.isF = true := by rfl) (hlen : Γp.length = ks.length + dfl.length := by rfl)
    (hst : starEach (e :: es) X.env = (false, eval e X.env) :: starEach es X.env := by rfl) (hpl : (backTo pos (starEach es X.env)).any (·.1) = false := by rfl)
    (ht : eval (.Call (.Attribute o m apos) (e :: es) [] pos) X.env = (do
      let ov ← eval o X.env
      standAt apos.atName
      let (f, first) ← holding [ov] (getMethod ov m pl)
      callWith pos f first (backTo pos (starEach (e :: es) X.env)) (backToKw pos (keywordEach [] X.env))) := by rfl) {W0 : WX} (tk : Takes X W0 := by first | assumption | exact takes0) : SP X Γ (.Call (.Attribute o m apos) (e :: es) [] pos) (mR c m g fs F dfl) .t := by
  obtain ⟨f, fd, dv, hm, G, hb, hd, hfl⟩ := h.ex
  obtain ⟨t, p, q⟩ := ha.ex
  obtain ⟨t0, p0, q0⟩ := ho.ex
  refine ⟨_, pe_methSD p0 C.cls hm G (hr.mono hj) hb hd (fun σ => passAt tk σ) p hst hpl ht, fun σ H Q env fp Z d E hF hQ => ?_⟩
  obtain ⟨d0, h0, hF⟩ := Option.bind_eq_some_iff.mp hF
  split at hF
  · rename_i cc
    obtain ⟨c1, c2⟩ := Bool.and_eq_true_iff.mp cc
    obtain ⟨ds, h2, hF⟩ := Option.bind_eq_some_iff.mp hF
    refine q0 σ H _ env fp Z d0 E h0 fun v0 H1 s1 hv0 => ?_
    obtain ⟨a, dx, kvs, rfl, ha, lk⟩ := rep_noF hv0.rep c1 c2
    refine ⟨a, dx, _, rfl, ha, lk, q σ H1 _ env fp Z ds (E.same s1) h2 fun vs H2 s2 hv => ?_⟩
    exact rd_call E (s1.trans s2) (Rep.mono s2 hv0.rep) (hv.less s1) hf hlen hfl hF fun v H' s3 _ r => hQ v H' ((s1.trans s2).trans s3) r
  · cases hF
theorem s_methW0 {pl : Sem Bool} (C : ClF X.K c fl) (h : Dm X.prog X.w X.K X.mg X.base xc j c m ps (.fz :: Γp) rk F dfl) (hr : Room kk X.A) (ho : SP X Γ o g k) (hj : j ≤ kk := by decide) (hf : Γp.all Sh.isF = true := by rfl) (hlen : Γp.length = dfl.length := by rfl)
    (ht : eval (.Call (.Attribute o m apos) [] [] pos) X.env = (do
      let ov ← eval o X.env
      standAt apos.atName
      let (f, first) ← holding [ov] (getMethod ov m pl)
      callWith pos f first (backTo pos (starEach [] X.env)) (backToKw pos (keywordEach [] X.env))) := by rfl) {W0 : WX} (tk : Takes X W0 := by first | assumption | exact takes0) : SP X Γ (.Call (.Attribute o m apos) [] [] pos) (mR c m g a0 F dfl) .t := by
  obtain ⟨f, fd, dv, hm, G, hb, hd, hfl⟩ := h.ex
  obtain ⟨t0, p0, q0⟩ := ho.ex
  refine ⟨_, pe_methSD0 p0 C.cls hm G (hr.mono hj) hb hd (fun σ => passAt tk σ) ht, fun σ H Q env fp Z d E hF hQ => ?_⟩
  obtain ⟨d0, h0, hF⟩ := Option.bind_eq_some_iff.mp hF
  split at hF
  · rename_i cc
    obtain ⟨c1, c2⟩ := Bool.and_eq_true_iff.mp cc
    obtain ⟨ds, h2, hF⟩ := Option.bind_eq_some_iff.mp hF
    cases h2
    refine q0 σ H _ env fp Z d0 E h0 fun v0 H1 s1 hv0 => ?_
    obtain ⟨a, dx, kvs, rfl, ha, lk⟩ := rep_noF hv0.rep c1 c2
    refine ⟨a, dx, _, rfl, ha, lk, ?_⟩
    have hv : HKs X.K H fp Z H1 [] [] [] := .nil
    exact rd_call E s1 hv0.rep hv hf (by rw [hlen]; simp) hfl hF fun v H' s3 _ r => hQ v H' (s1.trans s3) r
  · cases hF
/-- .. that hands out a new list, a new dict -/
def imC (d : D) : Option D := match d with
  | .dic _ ds => if D.imms ds = true then some d else none
  | _ => none
theorem new_imm {σ : L2.St} {env : En} {fp Z : List Addr} {H H2 H' : Hp} {v : V} {d : D} {fn : List Addr} {s' : Sh} (E : EOk X.K Γ env σ H fp Z) (s2 : Sub H H2) (s3 : Sub H2 H') (fr : ∀ b ∈ fn, H2 b = none) (nn : fn.Nodup) (tr : Tr X.K H' (hid fn H') s' v d fn) : (∀ ds, s' = .li .fz → imL d = some (.lst ds) → HK X.K (.nw (.li .fz)) H fp Z H' v (.lst ds)) ∧ (∀ ks ds, s' = .dk .fz → imC d = some (.dic ks ds) → HK X.K (.nw (.dk .fz)) H fp Z H' v (.dic ks ds)) := by
  have s23 := s2.trans s3
  have frH : ∀ b ∈ fn, H b = none ∧ b ∉ fp ++ Z := fun b hb => by
    have n : H b = none := by
      cases q' : H b with
      | none => rfl
      | some o => have z := fr b hb; rw [s2 b o q'] at z; cases z
    exact ⟨n, E.fresh n⟩
  refine ⟨fun ds es hd => ?_, fun ks ds es hd => ?_⟩
  · subst es
    obtain ⟨a, vs, ds', rfl, rfl, rfl, ha, r⟩ := tr.liFz
    simp only [imL] at hd
    split at hd
    · rename_i im
      cases hd
      refine ⟨[a], frH, by simp, .li (fp := []) ha (Trs.ofFz (Reps.imms (fun b hb o ho => ?_) (r.mono hid_sub) im))⟩
      rcases List.mem_append.mp hb with hb | hb
      · rw [List.mem_singleton.mp hb, ha] at ho
        cases ho
        exact nt_lst _
      · exact (E.same s23).nt b hb o ho
    · cases hd
  · subst es
    obtain ⟨a, ks', vs, ds', rfl, rfl, rfl, ha, l, r⟩ := tr.dkFz
    simp only [imC] at hd
    split at hd
    · rename_i im
      cases hd
      refine ⟨[a], frH, by simp, .dk (fp := []) ha l (Trs.ofFz (Reps.imms (fun b hb o ho => ?_) (r.mono hid_sub) im))⟩
      rcases List.mem_append.mp hb with hb | hb
      · rw [List.mem_singleton.mp hb, ha] at ho
        cases ho
        exact nt_dK _
      · exact (E.same s23).nt b hb o ho
    · cases hd
theorem imL_ok {d d' : D} (h : imL d = some d') : ∃ ds, d' = .lst ds ∧ d = .lst ds := by
  cases d with
  | lst ds =>
    simp only [imL] at h
    split at h
    · cases h; exact ⟨ds, rfl, rfl⟩
    · cases h
  | _ => cases h
theorem imC_ok {d d' : D} (h : imC d = some d') : ∃ ks ds, d' = .dic ks ds ∧ d = .dic ks ds := by
  cases d with
  | dic ks ds =>
    simp only [imC] at h
    split at h
    · cases h; exact ⟨ks, ds, rfl, rfl⟩
    · cases h
  | _ => cases h
theorem s_methL {pl : Sem Bool} (C : ClF X.K c fl) (h : Dm X.prog X.w X.K X.mg X.base xc j c m ps (.fz :: Γp) (.nw (.li .fz)) F dfl) (hr : Room kk X.A) (ho : SP X Γ o g k) (hj : j ≤ kk := by decide) (hf : Γp.all Sh.isF = true := by rfl) (hlen : Γp.length = dfl.length := by rfl)
    (ht : eval (.Call (.Attribute o m apos) [] [] pos) X.env = (do
      let ov ← eval o X.env
      standAt apos.atName
      let (f, first) ← holding [ov] (getMethod ov m pl)
      callWith pos f first (backTo pos (starEach [] X.env)) (backToKw pos (keywordEach [] X.env))) := by rfl) {W0 : WX} (tk : Takes X W0 := by first | assumption | exact takes0) : SP X Γ (.Call (.Attribute o m apos) [] [] pos) (b1 (mR c m g a0 F dfl) imL) (.nw (.li .fz)) := by
  obtain ⟨f, fd, dv, hm, G, hb, hd, hfl⟩ := h.ex
  obtain ⟨t0, p0, q0⟩ := ho.ex
  refine ⟨_, pe_methSD0 p0 C.cls hm G (hr.mono hj) hb hd (fun σ => passAt tk σ) ht, fun σ H Q env fp Z d E hF hQ => ?_⟩
  obtain ⟨y, hF, him⟩ := bind1 hF
  obtain ⟨d0, h0, hF⟩ := Option.bind_eq_some_iff.mp hF
  split at hF
  · rename_i cc
    obtain ⟨c1, c2⟩ := Bool.and_eq_true_iff.mp cc
    obtain ⟨ds, h2, hF⟩ := Option.bind_eq_some_iff.mp hF
    cases h2
    refine q0 σ H _ env fp Z d0 E h0 fun v0 H1 s1 hv0 => ?_
    obtain ⟨a, dx, kvs, rfl, ha, lk⟩ := rep_noF hv0.rep c1 c2
    refine ⟨a, dx, _, rfl, ha, lk, ?_⟩
    have hv : HKs X.K H fp Z H1 [] [] [] := .nil
    refine rd_call E s1 hv0.rep hv hf (by rw [hlen]; simp) hfl hF fun v H' s3 hn r => ?_
    obtain ⟨fn, fr, nn, tr⟩ := hn _ rfl
    obtain ⟨zs, rfl, rfl⟩ := imL_ok him
    exact hQ v H' (s1.trans s3) ((new_imm E s1 s3 fr nn tr).1 zs rfl him)
  · cases hF
theorem s_methD {pl : Sem Bool} (C : ClF X.K c fl) (h : Dm X.prog X.w X.K X.mg X.base xc j c m ps (.fz :: Γp) (.nw (.dk .fz)) F dfl) (hr : Room kk X.A) (ho : SP X Γ o g k) (hj : j ≤ kk := by decide) (hf : Γp.all Sh.isF = true := by rfl) (hlen : Γp.length = dfl.length := by rfl)
    (ht : eval (.Call (.Attribute o m apos) [] [] pos) X.env = (do
      let ov ← eval o X.env
      standAt apos.atName
      let (f, first) ← holding [ov] (getMethod ov m pl)
      callWith pos f first (backTo pos (starEach [] X.env)) (backToKw pos (keywordEach [] X.env))) := by rfl) {W0 : WX} (tk : Takes X W0 := by first | assumption | exact takes0) : SP X Γ (.Call (.Attribute o m apos) [] [] pos) (b1 (mR c m g a0 F dfl) imC) (.nw (.dk .fz)) := by
  obtain ⟨f, fd, dv, hm, G, hb, hd, hfl⟩ := h.ex
  obtain ⟨t0, p0, q0⟩ := ho.ex
  refine ⟨_, pe_methSD0 p0 C.cls hm G (hr.mono hj) hb hd (fun σ => passAt tk σ) ht, fun σ H Q env fp Z d E hF hQ => ?_⟩
  obtain ⟨y, hF, him⟩ := bind1 hF
  obtain ⟨d0, h0, hF⟩ := Option.bind_eq_some_iff.mp hF
  split at hF
  · rename_i cc
    obtain ⟨c1, c2⟩ := Bool.and_eq_true_iff.mp cc
    obtain ⟨ds, h2, hF⟩ := Option.bind_eq_some_iff.mp hF
    cases h2
    refine q0 σ H _ env fp Z d0 E h0 fun v0 H1 s1 hv0 => ?_
    obtain ⟨a, dx, kvs, rfl, ha, lk⟩ := rep_noF hv0.rep c1 c2
    refine ⟨a, dx, _, rfl, ha, lk, ?_⟩
    have hv : HKs X.K H fp Z H1 [] [] [] := .nil
    refine rd_call E s1 hv0.rep hv hf (by rw [hlen]; simp) hfl hF fun v H' s3 hn r => ?_
    obtain ⟨fn, fr, nn, tr⟩ := hn _ rfl
    obtain ⟨ks, zs, rfl, rfl⟩ := imC_ok him
    exact hQ v H' (s1.trans s3) ((new_imm E s1 s3 fr nn tr).2 ks zs rfl him)
  · cases hF
end
end Py

set_option Elab.async false
set_option linter.all false
set_option maxRecDepth 100000
set_option maxHeartbeats 4000000
/-! Own layer: extend by any list; a list or else; new objects; dict(d). -/
namespace PySem.AutoSeq1
open PySem PySem.Calls PyProof.Rows
theorem list_extend_any (l : Addr) (items : Array Value) (n : Nat) (b : Addr) (items2 : Array Value) (n2 : Nat) (sl2 : Array (Option Value)) (hc0 : ¬(!items.isEmpty && Builtin.List.listTooLong (items.size + items2.size)) = true) (hc1 : items.size ≤ sizeLine) (hs2 : items.size + items2.size ≤ sizeLine + 1) :
    Meets (Builtin.«list.extend» ⟨[.ref l, .ref b], []⟩) (fun _ R s => s.heap.get? l = some { cls := .type "list", dict := none, data := .seq items n, slots := #[] } ∧ s.heap.get? b = some { cls := .type "list", dict := none, data := .seq items2 n2, slots := sl2 } ∧ R (.ok (.ret Value.none)) { s with heap := s.heap.update l (Obj.mapSeq fun x => x ++ items2), toks := s.toks }) :=
  .of_wp fun prog w A R s h => by
    obtain ⟨hp, g, d, tk, os⟩ := s; obtain ⟨hl, hb, h⟩ := h; have f1 := idx_int; have f2 := sub_tuple_tuple; have f3 := sub_list_list; have f4 := sub_tuple_list; have f5 := sub_list_tuple;
    have hz' : (items ++ items2).size ≤ sizeLine + 1 := by rw [Array.size_append]; exact hs2
    wp_walk using (wpAny_updateSeq hl rfl (hz := hc1) (_hz' := hz')), wpAny_loadPart' hl, wpAny_loadPart' hb; exact ⟨_, rfl, h⟩
end PySem.AutoSeq1
namespace Py
open PySem PySem.Spec PyProof.Rows L2
section
variable {X : Cx} {xc : Nat → Addr} {W : WX} {np : Nat} {Γ Γp : List Sh} {rk : Kd} {a b e o : Expr} {es : List Expr} {c f : Str} {r : Sh} {fl : List Str} {g fa fb : En → Option D} {fs : En → Option (List D)} {pt : D → En → Option En} {m : IE} {ka kb k : Kd} {ks : List Kd} {pos p2 p3 p4 : Pos} {F : DF} {dfl : List D} {x : Str} {ps : List Str} {j kk : Nat}
def rExtendQ (K : PySem.W.Frag) : V → List V → Hp → VK → Prop := fun x vs H Q => ∃ l b xs zs, x = .ref l ∧ vs = [.ref b] ∧ H l = some (.lst xs) ∧ SqL K H b zs ∧ xs.length + zs.length ≤ sizeLine ∧ Q .non (upd H l (.lst (xs ++ zs)))
theorem mt_extendQ : MtM X "list.extend" (rExtendQ X.K) := by
  intro pins s σ H x vs v us Q I rx rv h
  obtain ⟨l, b, xs, zs, rfl, rfl, hH, hB, hz, q⟩ := h
  cases rx
  obtain ⟨u, rfl, ru⟩ := rv.one
  cases ru
  obtain ⟨z, its, n, r, hl, e⟩ := I.lstM hH
  obtain ⟨its2, r2, ⟨⟨cls, dd, data, sl⟩, n2, e2, hc, hd, hdat⟩, hl2⟩ := I.list hB
  simp only at hc hd hdat
  subst hc hd hdat
  have l2 := r2.length
  have hsz : its.toArray.size + its2.toArray.size ≤ sizeLine := by rw [List.size_toArray, List.size_toArray]; omega
  have hlong : ¬ (!its.toArray.isEmpty && Builtin.List.listTooLong (its.toArray.size + its2.toArray.size)) = true := by
    rw [notLongL hsz, Bool.and_false]
    exact Bool.false_ne_true
  refine call_meets PySem.F.slot_list_extend ⟨_, e, rfl⟩ PySem.F.entry_list_extend (PySem.F.args_list_extend_2 _ _)
    (AutoSeq1.list_extend_any l its.toArray n b its2.toArray n2 sl hlong (by rw [List.size_toArray]; omega) (by omega)) ⟨e, e2, ?_⟩
  refine ⟨.non, _, I.lset (its' := its ++ its2) hH e (by simp) (r.append r2) ?_, rfl, q⟩
  rw [List.length_append]
  omega
theorem qs_extendU (i : Nat) {x : Str} (he : SI X xc W Γ e m .u) (hN : X.N[i]? = some x := by rfl) (hv : Vis X.env.scope x := by first | exact Or.inl rfl | exact Or.inr (Or.inl rfl) | exact Or.inr (Or.inr rfl)) (hs : Γ[i]? = some (.li .fz) := by rfl) (hd : (x == ("__debug__" : Str)) = false := by decide) (hcd : (x == ("__classdict__" : Str)) = false := by decide)
    (hsw : swapsWith (.Call (.Attribute (.Name x p2) "extend" p3) [e] [] p4) none pos.line X.env = pure false := by rfl) (hse : starEach [e] X.env = (false, eval e X.env) :: starEach [] X.env := by rfl)
    (mk : ∀ (to : TE) (t : TA), PE X (.Name x p2) to → PA X [e] t → PE X (.Call (.Attribute (.Name x p2) "extend" p3) [e] [] p4) (tBM X.K "list" (rExtendQ X.K) to t) := by intro to t ho ha; exact L2.pe_bm PySem.F.plainAttrs_list PySem.F.slot_list_extend PySem.F.type_list_extend mt_extendQ ho ha) :
    SS X xc W np Γ rk (.Expr (.Call (.Attribute (.Name x p2) "extend" p3) [e] [] p4) pos) (qEx i m) := by
  obtain ⟨t, p, q⟩ := he.ex
  refine ⟨_, ps_expr (mk _ _ (pe_var hN hv hd hcd) (pa_cons p pa_nil hse)) hsw, fun D σ H env fp Z fl env' E hf hQ => ?_⟩
  unfold qEx at hf
  split at hf
  · rename_i hl
    obtain ⟨xs0, hx0⟩ := isL_ok hl
    obtain ⟨a, vs, hσ, ha, r, ia, _⟩ := E.lset hs hx0
    refine ⟨_, hσ, .inl ⟨rfl, vs, .inl (.inl ha)⟩, ?_⟩
    unfold qDo at hf
    split at hf
    · rename_i d e1 h1
      obtain ⟨e2, h2, z⟩ := Option.map_eq_some_iff.mp hf
      cases z
      obtain ⟨xs, ys, hx, hy, rfl⟩ := onL_ok h2
      refine q σ H _ env fp Z _ e1 E h1 fun H1 f1 E1 x1 v hv => ?_
      obtain ⟨a', vs', hσ', ha', r', ia', cont⟩ := E1.lset hs hx
      rw [hσ] at hσ'; cases hσ'
      cases d with
      | lst zs =>
        have hv' : Rep X.K (hid (f1 ++ Z) H1) v (.lst zs) := hv
        cases hv' with
        | @lst bb zv _ sq rz =>
          simp only [exL] at hy
          split at hy
          · rename_i hlen
            cases hy
            obtain ⟨fp', E2, x2, _⟩ := cont (vs' ++ zv) (xs ++ zs) (r'.append rz)
            exact ⟨_, bb, _, zv, rfl, rfl, ha', hid_sub.sqL sq, by rw [r'.length, rz.length]; exact hlen, hQ σ _ fp' E2 (x1.trans x2) Prot.refl⟩
          · cases hy
      | _ => cases hy
    · rename_i cc dd e1 h1
      cases hf
      exact q σ H _ env fp Z _ env' E h1 fun H1 f1 E1 x1 cls od hx => hQ σ H1 f1 E1 x1 Prot.refl cls od hx
    · cases hf
  · cases hf
theorem qp_extendU (h : PL X Γ a (.li .fz) g pt) (he : SP X Γ e fa .u)
    (hsw : swapsWith (.Call (.Attribute a "extend" p3) [e] [] p4) none pos.line X.env = pure false := by rfl) (hse : starEach [e] X.env = (false, eval e X.env) :: starEach [] X.env := by rfl)
    (mk : ∀ (to : TE) (t : TA), PE X a to → PA X [e] t → PE X (.Call (.Attribute a "extend" p3) [e] [] p4) (tBM X.K "list" (rExtendQ X.K) to t) := by intro to t ho ha; exact L2.pe_bm PySem.F.plainAttrs_list PySem.F.slot_list_extend PySem.F.type_list_extend mt_extendQ ho ha) :
    SS X xc W np Γ rk (.Expr (.Call (.Attribute a "extend" p3) [e] [] p4) pos) (qPl g (fun env l => (fa env).bind fun d => exD2 d l) pt) := by
  obtain ⟨t, p, q⟩ := h.ex
  obtain ⟨t2, p2, q2⟩ := he.ex
  refine ⟨_, ps_expr (mk _ _ p (pa_cons p2 pa_nil hse)) hsw, fun D σ H env fp Z fl env' E hf hQ => ?_⟩
  obtain ⟨rfl, l, l', hl, ho, hp⟩ := qPl_ok hf
  obtain ⟨d, hd, ho⟩ := Option.bind_eq_some_iff.mp ho
  refine q σ H _ env fp Z l E hl fun v H1 s1 A => ?_
  obtain ⟨a1, vs1, ds1, rfl, rfl, ha1, _⟩ := A.lset
  refine ⟨.inl ⟨rfl, vs1, .inl (.inl ha1)⟩, q2 σ H1 _ env fp Z d (E.same s1) hd fun w H2 s2 hw => ?_⟩
  obtain ⟨a2, vs, ds, e1, e2, ha, rr, cont⟩ := (A.mono s2).lset
  cases e1
  cases e2
  cases d with
  | lst zs =>
    have hw' : Rep X.K (hid (fp ++ Z) H2) w (.lst zs) := hw
    cases hw' with
    | @lst bb zv _ sq rz =>
      obtain ⟨ys, hy, e3⟩ := Option.map_eq_some_iff.mp (show (exL (.lst zs) ds1).map Py.D.lst = some l' from ho)
      subst e3
      simp only [exL] at hy
      split at hy
      · rename_i hlen
        cases hy
        obtain ⟨fp', E2, x2⟩ := cont (vs ++ zv) (ds1 ++ zs) env' (rr.append rz) hp
        exact ⟨_, bb, _, zv, rfl, rfl, ha, hid_sub.sqL sq, by rw [rr.length, rz.length]; exact hlen, hQ σ _ fp' E2 ((Ext.same (s1.trans s2)).trans x2) Prot.refl⟩
      · cases hy
  | _ => cases ho
/-! ### a slot of a list or else -/
theorem qs_setU1 (i : Nat) {x : Str} (he : SI X xc W Γ e m (.nw (.li .fz))) (hN : X.N.Nodup) (hi : X.N[i]? = some x := by rfl) (hx : Loc X.env.scope x := by first | exact .inl rfl | exact .inr rfl) (hs : Γ[i]? = some .un := by rfl) (hnp : np ≤ i := by decide) (hsw : swapsWith e (some (.Name x p2)) pos.line X.env = pure false := by rfl) (hf : X.fn x = true ∨ X.env.scope.names.lookup x = some .local := by first | exact .inl rfl | exact .inr rfl) :
    SS X xc W np Γ rk (.Assign [.Name x p2] e pos) (qDo m (put i)) := by
  obtain ⟨t, p, q⟩ := he.ex
  refine ⟨_, ps_set hN hi hx p hsw hf, fun D σ H env fp Z fl env' E hf hQ => ?_⟩
  unfold qDo at hf
  split at hf
  · rename_i d e1 h1
    obtain ⟨e2, h2, z⟩ := Option.map_eq_some_iff.mp hf
    cases z
    obtain ⟨hl, rfl⟩ := put_ok h2
    refine q σ H _ env fp Z _ e1 E h1 fun H1 f1 E1 x1 v hv => ?_
    obtain ⟨fn, a, nn, tr, E2⟩ := hv
    exact hQ _ H1 (fn ++ f1) (EOk.setO hs nn (.un1 tr) (fun b hb => (a b hb).2) E2) (x1.more fun b hb => (a b hb).1) (Prot.set (.inr hnp))
  · rename_i cc dd e1 h1
    cases hf
    exact q σ H _ env fp Z _ env' E h1 fun H1 f1 E1 x1 cls od hx => hQ σ H1 f1 E1 x1 Prot.refl cls od hx
  · cases hf
def putN (i : Nat) (d : D) (env : En) : Option En := if d.nl = true then put i d env else none
theorem qs_setU2 (i : Nat) {x : Str} (he : SI X xc W Γ e m .u) (hN : X.N.Nodup) (hi : X.N[i]? = some x := by rfl) (hx : Loc X.env.scope x := by first | exact .inl rfl | exact .inr rfl) (hs : Γ[i]? = some .un := by rfl) (hnp : np ≤ i := by decide) (hsw : swapsWith e (some (.Name x p2)) pos.line X.env = pure false := by rfl) (hf : X.fn x = true ∨ X.env.scope.names.lookup x = some .local := by first | exact .inl rfl | exact .inr rfl) :
    SS X xc W np Γ rk (.Assign [.Name x p2] e pos) (qDo m (putN i)) := by
  obtain ⟨t, p, q⟩ := he.ex
  refine ⟨_, ps_set hN hi hx p hsw hf, fun D σ H env fp Z fl env' E hf hQ => ?_⟩
  unfold qDo at hf
  split at hf
  · rename_i d e1 h1
    obtain ⟨e2, h2, z⟩ := Option.map_eq_some_iff.mp hf
    cases z
    unfold putN at h2
    split at h2
    · rename_i nl
      obtain ⟨hl, rfl⟩ := put_ok h2
      refine q σ H _ env fp Z _ e1 E h1 fun H1 f1 E1 x1 v hv => ?_
      have E3 := EOk.setO (fn := []) hs List.nodup_nil (.un2 hv nl) (fun _ z => nomatch z) E1
      exact hQ _ H1 f1 E3 x1 (Prot.set (.inr hnp))
    · cases h2
  · rename_i cc dd e1 h1
    cases hf
    exact q σ H _ env fp Z _ env' E h1 fun H1 f1 E1 x1 cls od hx => hQ σ H1 f1 E1 x1 Prot.refl cls od hx
  · cases hf
theorem At.unset {K : PySem.W.Frag} {env : En} {σ : L2.St} {H : Hp} {fp Z : List Addr} {v : V} {ds : List D} (A : At K Γ pt .un env σ H fp Z v (.lst ds)) : ∃ a vs, v = .ref a ∧ H a = some (.lst vs) ∧ Reps K (hid (fp ++ Z) H) vs ds ∧ ∀ us es env', Reps K (hid (fp ++ Z) H) us es → pt (.lst es) env = some env' → ∃ fp', EOk K Γ env' σ (upd H a (.lst us)) fp' Z ∧ Ext H fp (upd H a (.lst us)) fp' := by
  obtain ⟨f2, rest, t, n2, in2, hr, cv, cont⟩ := A
  cases t with
  | un1 t =>
    have t' := t
    obtain ⟨a, vs, ds', rfl, e, rfl, ha, r⟩ := t.liFz
    cases e
    refine ⟨a, vs, rfl, ha, r, fun us es env' ru hp => ?_⟩
    exact At.wr (W := []) (pt := pt) ha (nt_lst us) (.un1 t') in2 hr cv cont (by simp) rfl (fun _ z => nomatch z) hp fun G' sG _ => ⟨[a], .un1 (.li (fp := []) upd_same (Trs.ofFz (ru.mono sG))), by simp, fun b hb => .inl hb⟩
  | un2 _ f => cases f
theorem qp_appendU (h : PL X Γ a .un g pt) (he : SP X Γ e fa .u)
    (hsw : swapsWith (.Call (.Attribute a "append" p3) [e] [] p4) none pos.line X.env = pure false := by rfl) (hse : starEach [e] X.env = (false, eval e X.env) :: starEach [] X.env := by rfl)
    (mk : ∀ (to : TE) (t : TA), PE X a to → PA X [e] t → PE X (.Call (.Attribute a "append" p3) [e] [] p4) (tBM X.K "list" rAppend to t) := by intro to t ho ha; exact L2.pe_bm PySem.F.plainAttrs_list PySem.F.slot_list_append PySem.F.type_list_append L2.mt_append ho ha) :
    SS X xc W np Γ rk (.Expr (.Call (.Attribute a "append" p3) [e] [] p4) pos) (qPl g (fun env l => (fa env).bind fun d => apD d l) pt) := by
  obtain ⟨t, p, q⟩ := h.ex
  obtain ⟨t2, p2, q2⟩ := he.ex
  refine ⟨_, ps_expr (mk _ _ p (pa_cons p2 pa_nil hse)) hsw, fun D σ H env fp Z fl env' E hf hQ => ?_⟩
  obtain ⟨rfl, l, l', hl, ho, hp⟩ := qPl_ok hf
  obtain ⟨d, hd, ho⟩ := Option.bind_eq_some_iff.mp ho
  refine q σ H _ env fp Z l E hl fun v H1 s1 A => ?_
  cases l with
  | lst ds1 =>
    obtain ⟨a1, vs1, rfl, ha1, _⟩ := A.unset
    refine ⟨.inl ⟨rfl, vs1, .inl (.inl ha1)⟩, q2 σ H1 _ env fp Z d (E.same s1) hd fun w H2 s2 hw => ?_⟩
    obtain ⟨a2, vs, e1, ha, rr, cont⟩ := (A.mono s2).unset
    cases e1
    obtain ⟨ys, hy, e3⟩ := Option.map_eq_some_iff.mp (show (apL d ds1).map Py.D.lst = some l' from ho)
    subst e3
    unfold apL at hy
    split at hy
    · rename_i hlen
      cases hy
      obtain ⟨fp', E2, x2⟩ := cont (vs ++ [w]) (ds1 ++ [d]) env' (rr.append (.cons hw .nil)) hp
      exact ⟨_, _, _, rfl, rfl, ha, by rw [rr.length]; exact hlen, hQ σ _ fp' E2 ((Ext.same (s1.trans s2)).trans x2) Prot.refl⟩
    · cases hy
  | _ => cases ho
theorem qp_setItemU (he : SI X xc W Γ e m .u) (h : PL X Γ a .un g pt) (hi : SP X Γ b fb kb)
    (ha : ∀ v, assign (.Subscript a b p3) X.env v = (do
      let ov ← holding [v] (eval a X.env)
      let iv ← holding [v, ov] (eval b X.env)
      standAt p3
      holding [v, ov, iv] (setItem ov iv v)
      release [v, ov, iv] []) := by intro _; rfl)
    (hsw : swapsWithSole [.Subscript a b p3] e pos.line X.env = pure false := by rfl) (hw : swappedStores [.Subscript a b p3] e X.env = pure none := by rfl)
    (h1 : (assignEach [.Subscript a b p3] X.env).map (·.2) = [assign (.Subscript a b p3) X.env] := by rfl) :
    SS X xc W np Γ rk (.Assign [.Subscript a b p3] e pos) (qDo m fun d env => (g env).bind fun l => (fb env).bind fun j => (stD j d l).bind fun l' => pt l' env) := by
  obtain ⟨t, p, q⟩ := he.ex
  obtain ⟨t1, p1, q1⟩ := h.ex
  obtain ⟨t2, pb, q2⟩ := hi.ex
  refine ⟨_, ps_asg p (pg_sub p1 pb set_list ha) hsw hw h1, fun D σ H env fp Z fl env' E hf hQ => ?_⟩
  unfold qDo at hf
  split at hf
  · rename_i d e1 h1
    obtain ⟨e2, h2, z⟩ := Option.map_eq_some_iff.mp hf
    cases z
    obtain ⟨l, hl, h2⟩ := Option.bind_eq_some_iff.mp h2
    obtain ⟨j, hj, h2⟩ := Option.bind_eq_some_iff.mp h2
    obtain ⟨l', hl', hp⟩ := Option.bind_eq_some_iff.mp h2
    cases l with
    | lst ds =>
      refine q σ H _ env fp Z _ e1 E h1 fun H1 f1 E1 x1 v hv => ?_
      refine q1 σ H1 _ e1 f1 Z _ E1 hl fun ov H2 s2 A => q2 σ H2 _ e1 f1 Z j (E1.same s2) hj fun w H3 s3 hw => ?_
      obtain ⟨a', vs, rfl, ha', rr, cont⟩ := (A.mono s3).unset
      obtain ⟨ys, hy, e3⟩ := Option.map_eq_some_iff.mp (show (stL j d ds).map Py.D.lst = some l' from hl')
      subst e3
      cases j with
      | int k =>
        obtain ⟨n, hn, e⟩ := Option.map_eq_some_iff.mp hy
        subst e
        cases hw.rep
        obtain ⟨fp', E3, x3⟩ := cont (vs.set n v) (ds.set n d) _ (rr.set (Rep.mono (hid_mono (s2.trans s3)) hv) n) hp
        exact ⟨_, _, _, n, rfl, rfl, ha', by rw [rr.length]; exact hn, hQ σ _ fp' E3 ((x1.trans (Ext.same (s2.trans s3))).trans x3) Prot.refl⟩
      | _ => cases hy
    | _ => cases hl'
  · rename_i cc dd e1 h1
    cases hf
    exact q σ H _ env fp Z _ env' E h1 fun H1 f1 E1 x1 cls od hx => hQ σ H1 f1 E1 x1 Prot.refl cls od hx
  · cases hf
def asLT : D → Option (List D)
  | .lst xs => some xs
  | .tup xs => some xs
  | _ => none
theorem i_vwU {tg : Expr} (he : SP X Γ e fa (.vw .un)) : SPI X Γ tg e (itD fa asLT) true := by
  obtain ⟨t, p, q⟩ := he.ex
  refine ⟨_, pi_seq p, fun σ H R env fp Z xs E hf hR => ?_⟩
  obtain ⟨d, hd, hx⟩ := Option.bind_eq_some_iff.mp hf
  refine q σ H _ env fp Z d E hd fun v H1 s1 h1 => ?_
  cases d with
  | lst ds =>
    obtain ⟨a, vs, rfl, sq, r⟩ := h1.lst
    cases hx
    exact .inl ⟨_, rfl, ⟨_, sq⟩, hR _ H1 _ _ s1 (src_list (G1 := H1) sq r) Sub.refl Sub.refl fun z => nomatch z⟩
  | tup ds =>
    obtain ⟨a, vs, rfl, sq, r⟩ := h1.tup
    cases hx
    exact .inr (.inl ⟨_, rfl, ⟨_, sq⟩, hR _ H1 _ _ s1 (src_tup (G1 := H1) sq r) Sub.refl Sub.refl fun z => nomatch z⟩)
  | _ => cases hx
/-! ### new objects -/
structure Mc (P : Program) (w : World) (K : PySem.W.Frag) (mg : Str → Option Value) (base : Heap) (xc : Nat → Addr) (k : Nat) (c : Str) (r : Sh) (ps : List Str) (Γp : List Sh) (F : DF) (dfl : List D) : Prop where
  ex : ∃ (f : Addr) (fd : FuncData) (ds : List Value), Mk K (He.ga K c) f ∧ mg c = some (.ref (He.ga K c)) ∧ FnOk P w K mg base (L2.CX P w) k f fd ps (spD K xc (.ob c r :: Γp) .u F) ∧ Binds K fd ps ds ∧ Vals (dfl.map D.v) ds ∧ dfl.all D.flat = true
def mkC (c : Str) (fs : En → Option (List D)) (F : DF) (dfl : List D) : En → Option D := fun env => (fs env).bind fun ds => match F (.obj c [] [] :: (ds ++ dfl)) with
  | some (.rt .non, [o]) => some o
  | _ => none
theorem s_make (h : Mc X.prog X.w X.K X.mg X.base xc j c r ps Γp F dfl) (hr : Room kk X.A) (ha : SAs X Γ (e :: es) fs ks) (hj : j + 1 ≤ kk := by decide) (hgl : Gl X c := by rfl) (hf : Γp.all Sh.isF = true := by rfl) (hks : ks.all Kd.cu = true := by rfl) (hlen : Γp.length = ks.length + dfl.length := by rfl)
    (hdb : (c == ("__debug__" : Str)) = false := by decide) (he : starEach (e :: es) X.env = (false, eval e X.env) :: starEach es X.env := by rfl) (hpl : (backTo pos (starEach es X.env)).any (·.1) = false := by rfl) : SP X Γ (.Call (.Name c p2) (e :: es) [] pos) (mkC c fs F dfl) (.nw (.ob c r)) := by
  obtain ⟨f, fd, dv, M, hm, G, hb, hd, hfl⟩ := h.ex
  obtain ⟨t, p, q⟩ := ha.ex
  refine ⟨_, pe_make M G (hr.mono hj) hgl hm hb hd (E := fun _ _ _ => False) (fun pins σ H s e s' I c => passAt takes0 σ pins H s e s' I c) p hdb he hpl, fun σ H Q env fp Z d E hF hQ => ?_⟩
  obtain ⟨ds, hds, hF⟩ := Option.bind_eq_some_iff.mp hF
  refine q σ H _ env fp Z ds E hds fun vs H1 s1 hv y dx hy hdx hne => ?_
  split at hF
  · rename_i o hF1
    cases hF
    have E1 := E.same s1
    have hyd : y ≠ dx := fun z => hne z.symm
    have sb : Sub H1 (upd (upd H1 dx (.own y)) y (.ins (He.ga X.K c) dx [])) := fun b q h => by
      rw [upd_ne (ne_of_none h hy), upd_ne (ne_of_none h hdx)]; exact h
    have hy2 : (upd (upd H1 dx (.own y)) y (.ins (He.ga X.K c) dx [])) y = some (.ins (He.ga X.K c) dx []) := upd_same
    have hd2 : (upd (upd H1 dx (.own y)) y (.ins (He.ga X.K c) dx [])) dx = some (.own y) := by rw [upd_ne hne, upd_same]
    have fy := E1.fresh hy
    have fd' := E1.fresh hdx
    have E2 := E1.same sb
    have sbh : Sub (hid (fp ++ Z) (upd (upd H1 dx (.own y)) y (.ins (He.ga X.K c) dx []))) (upd (upd H1 dx (.own y)) y (.ins (He.ga X.K c) dx [])) := hid_sub
    have gsub : Sub (hid (fp ++ Z) H1) (hid ([y, dx] ++ (fp ++ Z)) (upd (upd H1 dx (.own y)) y (.ins (He.ga X.K c) dx []))) := fun b q h => by
      obtain ⟨h1, h2⟩ := hid_some h
      rw [hid_of]
      · exact sb b q h2
      · intro z
        rcases List.mem_append.mp z with z | z
        · rcases List.mem_cons.mp z with z | z
          · subst z; rw [hy] at h2; cases h2
          · rw [List.mem_singleton.mp z, hdx] at h2; cases h2
        · exact h1 z
    have rr := ((hv.repsU hks).append (Reps.flats (G := hid (fp ++ Z) H1) (K := X.K) hfl)).mono gsub
    refine ⟨.obj c [] [] :: (ds ++ dfl), [y, dx], fp ++ Z, .rt .non, [d], ⟨⟨[y, dx], ?_, by simp [hyd], fun b hb => hb⟩, fun b hb z => ?_, fun b hb => ?_⟩, hF1, fun H' fc Eo xt => ?_⟩
    · have tr : Tr X.K (upd (upd H1 dx (.own y)) y (.ins (He.ga X.K c) dx [])) (hid ([y, dx] ++ (fp ++ Z)) (upd (upd H1 dx (.own y)) y (.ins (He.ga X.K c) dx []))) (.ob c r) (.ref y) (.obj c [] []) [y, dx] := .ob (fp := []) hy2 hd2 rfl .nil
      have z := TrE.has tr (TrE.ofReps (H := upd (upd H1 dx (.own y)) y (.ins (He.ga X.K c) dx [])) rr)
      have lw : Γp.length = (vs ++ dfl.map D.v).length := by rw [rr.length, hlen, List.length_append, hks_len hv]
      rw [List.append_nil, ← lw, ← allF hf] at z
      exact z
    · rcases List.mem_cons.mp hb with w | w
      · subst w; exact fy z
      · rw [List.mem_singleton.mp w] at z; exact fd' z
    · rcases List.mem_append.mp hb with w | w
      · rcases List.mem_cons.mp w with w | w
        · subst w; exact ⟨_, hy2, nt_ins _ _ _⟩
        · rw [List.mem_singleton.mp w]; exact ⟨_, hd2, nt_own _⟩
      · exact E2.ok b w
    · rw [flt_own (s := .ob c r) (fun z => nomatch z) hf, flt_own (s := .ob c r) (fun z => nomatch z) hf] at Eo
      refine fun v hvv => ?_
      have ev : v = .non := by
        have : Rep X.K (hid (fc ++ (fp ++ Z)) H') v .non := hvv
        cases this
        rfl
      refine ⟨ev, hQ _ H' ?_ ?_⟩
      · exact fun b q h => xt.keep b q (sb b q (s1 b q h)) fun z => by
          rcases List.mem_cons.mp z with z | z
          · subst z; rw [s1 _ q h] at hy; cases hy
          · rw [← List.mem_singleton.mp z, s1 _ q h] at hdx; cases hdx
      · obtain ⟨⟨fq, tq, nq, iq⟩, dj, ok⟩ := Eo
        cases tq with
        | has tq rest =>
          cases rest
          rw [List.append_nil] at nq iq
          refine ⟨_, fun b hb => ⟨?_, dj b (iq b hb)⟩, nq, tq.mono (hid_less fun b hb => ?_) fun _ _ _ h => h⟩
          · have n1 : H1 b = none := by
              rcases xt.own b (iq b hb) with z | z
              · rcases List.mem_cons.mp z with z | z
                · subst z; exact hy
                · rw [List.mem_singleton.mp z]; exact hdx
              · cases q : H1 b with
                | none => rfl
                | some w => rw [sb b w q] at z; cases z
            cases q : H b with
            | none => rfl
            | some w => rw [s1 b w q] at n1; cases n1
          · rcases List.mem_append.mp hb with z | z
            · exact List.mem_append_left _ (iq b z)
            · exact List.mem_append_right _ z
  · cases hF
/-! ### dict(d) -/
def diD : List D → Option D
  | [.dic ks ds] => some (.dic ks ds)
  | _ => none
theorem s_dict (hm : X.mg "dict" = none) (ha : SP X Γ e fa k) (hk : k.clean = true := by rfl) (hgl : Gl X "dict" := by rfl) (he : starEach [e] X.env = (false, eval e X.env) :: starEach [] X.env := by rfl) : SP X Γ (.Call (.Name "dict" p2) [e] [] pos) (bA (Py.a1 fa a0) diD) (.nw (.dk .fz)) := by
  obtain ⟨t, p, q⟩ := ha.ex
  refine ⟨_, pe_callTy call_dictD hgl hm (by decide +kernel) (pa_cons p pa_nil he) (by decide) (by decide) he (by rfl), fun σ H Q env fp Z d E hf hQ => ?_⟩
  obtain ⟨xs, hx, hd⟩ := Option.bind_eq_some_iff.mp hf
  obtain ⟨y, hy, hx⟩ := Option.bind_eq_some_iff.mp hx
  cases hx
  cases y with
  | dic ks ds =>
    cases hd
    refine q σ H _ env fp Z _ E hy fun v H1 s1 h1 => ?_
    obtain ⟨a, vs, rfl, ha, l, r⟩ := h1.dic
    refine ⟨a, _, rfl, .inl ha, fun p0 hp => hQ _ _ (s1.trans (Sub.upd hp)) ?_⟩
    have nH : H p0 = none := by
      cases q : H p0 with
      | none => rfl
      | some w => rw [s1 p0 w q] at hp; cases hp
    refine ⟨[p0], fun b hb => ?_, by simp, .dk (fp := []) upd_same l (Trs.ofFz ?_)⟩
    · rw [List.mem_singleton.mp hb]; exact ⟨nH, E.fresh nH⟩
    · unfold Kd.G at r
      rw [if_pos hk] at r
      refine r.mono fun b o h => ?_
      obtain ⟨h1, h2⟩ := hid_some h
      have nb : b ≠ p0 := ne_of_none h2 hp
      rw [hid_of, upd_ne nb]
      · exact h2
      · intro z
        rcases List.mem_append.mp z with z | z
        · exact nb (List.mem_singleton.mp z)
        · exact h1 z
  | _ => cases hd
end
end Py

set_option Elab.async false
set_option linter.all false
set_option maxRecDepth 100000
set_option maxHeartbeats 4000000
/-! Own layer: what is the same with empty dicts within. -/
namespace Py
open PySem PySem.Spec PyProof.Rows L2 PySem.SeqAt
mutual
def sameE : Nat → D → D → Bool
  | _, .non, .non => true
  | _, .bl a, .bl b => decide (a = b)
  | _, .int a, .int b => decide (a = b)
  | _, .str a, .str b => decide (a = b)
  | n + 1, .lst xs, .lst ys => sameEs n xs ys
  | n + 1, .tup xs, .tup ys => sameEs n xs ys
  | _ + 1, .dic [] [], .dic [] [] => true
  | _, _, _ => false
def sameEs : Nat → List D → List D → Bool
  | _, [], [] => true
  | n, x :: xs, y :: ys => sameE n x y && sameEs n xs ys
  | _, _, _ => false
end
theorem sameEs_at : ∀ {n : Nat} {xs ys : List D}, sameEs n xs ys = true → xs.length = ys.length ∧ ∀ (j : Nat) (x y : D), xs[j]? = some x → ys[j]? = some y → sameE n x y = true
  | n, [], [], _ => ⟨rfl, fun j x y h _ => by simp at h⟩
  | n, x :: xs, y :: ys, h => by
    obtain ⟨h1, h2⟩ := Bool.and_eq_true_iff.mp (show (sameE n x y && sameEs n xs ys) = true by cases n <;> exact h)
    obtain ⟨l, q⟩ := sameEs_at h2
    refine ⟨by simp [l], fun j a b ha hb => ?_⟩
    cases j with
    | zero => simp at ha hb; subst ha hb; exact h1
    | succ j => exact q j a b (by simpa using ha) (by simpa using hb)
  | n, [], _ :: _, h => by cases n <;> cases h
  | n, _ :: _, [], h => by cases n <;> cases h
section
variable {X : Cx} {pins : List (Addr × Obj)} {σ : L2.St} {H : Hp} {s : Shared}
theorem all_true {n : Nat} : (List.range n).all (fun _ => true) = true := by simp
/-- the items of two lines, at one place -/
theorem items_at {vs ws : List V} {xs ys : List D} {its its2 : List Value} {n : Nat} (r1 : Reps X.K H vs xs) (r2 : Reps X.K H ws ys) (q1 : Vals vs its) (q2 : Vals ws its2) (h : sameEs n xs ys = true) :
    its.length = its2.length ∧ ∀ (j : Nat) (h1 : j < its.length) (h2 : j < its2.length), ∃ (x y : D) (v w : V), Rep X.K H v x ∧ Rep X.K H w y ∧ RelV v its[j] ∧ RelV w its2[j] ∧ sameE n x y = true := by
  obtain ⟨l, q⟩ := sameEs_at h
  have e1 := r1.length
  have e2 := r2.length
  have e3 := q1.length
  have e4 := q2.length
  refine ⟨by omega, fun j h1 h2 => ?_⟩
  obtain ⟨v, hv, rv⟩ := r1.get (i := j) (x := xs[j]'(by omega)) (List.getElem?_eq_getElem (by omega))
  obtain ⟨w, hw, rw'⟩ := r2.get (i := j) (x := ys[j]'(by omega)) (List.getElem?_eq_getElem (by omega))
  obtain ⟨u, hu, ru⟩ := q1.get hv
  obtain ⟨z, hz, rz⟩ := q2.get hw
  have eu : its[j] = u := (List.getElem?_eq_some_iff.mp hu).2
  have ez : its2[j] = z := (List.getElem?_eq_some_iff.mp hz).2
  exact ⟨_, _, v, w, rv, rw', by rw [eu]; exact ru, by rw [ez]; exact rz, q j _ _ (List.getElem?_eq_getElem (by omega)) (List.getElem?_eq_getElem (by omega))⟩
theorem empty_dict {prog prog' : Program} {w w' : World} {h : Heap} {a : Addr} (d : h.DictOf (mixKind prog w) a []) : h.DictOf (mixKind prog' w') a [] := by
  obtain ⟨o, es, ep, ho, hx, hd, hk, hp, hn⟩ := d
  have e : es.toList = [] := by
    have := hp.length
    simpa using this
  refine ⟨o, es, ep, ho, hx, hd, ?_, ?_, hn⟩
  · intro e' he'
    rw [← Array.mem_toList_iff, e] at he'
    cases he'
  · rw [e]
    exact .nil
theorem same_at (I : Inv X pins σ H s) : ∀ (n : Nat) (x y : D) (v w : V) (u1 u2 : Value), Rep X.K H v x → Rep X.K H w y → RelV v u1 → RelV w u2 → sameE n x y = true → ∀ A : Around, A.units + (n + 1) < cLine → EqAt A s u1 u2 true
  | n, .non, y, v, w, u1, u2, h1, h2, q1, q2, hs, A, hu => by
    cases y <;> first | (cases n <;> cases hs; done) | skip
    cases h1; cases h2; cases q1; cases q2
    exact EqAt.same _
  | n, .bl a, y, v, w, u1, u2, h1, h2, q1, q2, hs, A, hu => by
    cases y with
    | bl b =>
      have e : a = b := by cases n <;> exact of_decide_eq_true hs
      subst e
      cases h1; cases h2; cases q1; cases q2
      exact EqAt.same _
    | _ => cases n <;> cases hs
  | n, .int a, y, v, w, u1, u2, h1, h2, q1, q2, hs, A, hu => by
    cases y with
    | int b =>
      have e : a = b := by cases n <;> exact of_decide_eq_true hs
      subst e
      cases h1; cases h2
      obtain ⟨t, rfl⟩ := q1
      obtain ⟨t', rfl⟩ := q2
      have := EqAt.int_int (A := A) (s := s) a t a t'
      rw [beq_self_eq_true] at this
      exact this
    | _ => cases n <;> cases hs
  | n, .str a, y, v, w, u1, u2, h1, h2, q1, q2, hs, A, hu => by
    cases y with
    | str b =>
      have e : a = b := by cases n <;> exact of_decide_eq_true hs
      subst e
      cases h1; cases h2
      obtain ⟨t, rfl⟩ := q1
      obtain ⟨t', rfl⟩ := q2
      have := EqAt.str_str (A := A) (s := s) a t a t'
      rw [beq_self_eq_true] at this
      exact this
    | _ => cases n <;> cases hs
  | 0, .lst xs, y, v, w, u1, u2, h1, h2, q1, q2, hs, A, hu => by cases y <;> cases hs
  | 0, .tup xs, y, v, w, u1, u2, h1, h2, q1, q2, hs, A, hu => by cases y <;> cases hs
  | n + 1, .lst xs, y, v, w, u1, u2, h1, h2, q1, q2, hs, A, hu => by
    cases y with
    | lst ys =>
      cases h1 with
      | @lst a vs _ sq1 r1 =>
        cases h2 with
        | @lst b ws _ sq2 r2 =>
          cases q1; cases q2
          by_cases e : a = b
          · subst e; exact EqAt.same _
          obtain ⟨its, p1, l1, _⟩ := I.list sq1
          obtain ⟨its2, p2, l2, _⟩ := I.list sq2
          obtain ⟨hl, hi⟩ := items_at r1 r2 p1 p2 (show sameEs n xs ys = true from hs)
          have z := RcAt.lists (A := A) (s := s) (e := fun _ => true) l1.isList l2.isList (by simpa using hl) (by omega) (fun j h1 h2 => by
            obtain ⟨x, y, v, w, a1, a2, a3, a4, a5⟩ := hi j (by simpa using h1) (by simpa using h2)
            have := same_at I n x y v w _ _ a1 a2 a3 a4 a5 A.in1 (by show A.units + 1 + (n + 1) < cLine; omega)
            simpa using this)
          rw [all_true] at z
          exact EqAt.of_refs e z
    | _ => cases hs
  | n + 1, .tup xs, y, v, w, u1, u2, h1, h2, q1, q2, hs, A, hu => by
    cases y with
    | tup ys =>
      cases h1 with
      | @tup a vs _ sq1 r1 =>
        cases h2 with
        | @tup b ws _ sq2 r2 =>
          cases q1; cases q2
          by_cases e : a = b
          · subst e; exact EqAt.same _
          obtain ⟨its, p1, l1, _⟩ := I.tuple sq1
          obtain ⟨its2, p2, l2, _⟩ := I.tuple sq2
          obtain ⟨hl, hi⟩ := items_at r1 r2 p1 p2 (show sameEs n xs ys = true from hs)
          have l1' : s.heap.IsTuple a its.toArray := l1
          have l2' : s.heap.IsTuple b its2.toArray := l2
          have z := RcAt.tuples (A := A) (s := s) (e := fun _ => true) l1' l2' (by omega) (fun j h1 h2 => by
            obtain ⟨x, y, v, w, a1, a2, a3, a4, a5⟩ := hi j (by simpa using h1) (by simpa using h2)
            have := same_at I n x y v w _ _ a1 a2 a3 a4 a5 A.in1 (by show A.units + 1 + (n + 1) < cLine; omega)
            simpa using this)
          have e2 : ((List.range (min its.toArray.size its2.toArray.size)).all (fun _ => true) && its.toArray.size == its2.toArray.size) = true := by simp [hl]
          rw [e2] at z
          exact EqAt.of_refs e z
    | _ => cases hs
  | n, .dic ks xs, y, v, w, u1, u2, h1, h2, q1, q2, hs, A, hu => by
    cases n with
    | zero => cases y <;> (cases ks <;> cases xs <;> cases hs)
    | succ n =>
      cases ks with
      | cons _ _ => cases y <;> cases hs
      | nil =>
        cases xs with
        | cons _ _ => cases y <;> cases hs
        | nil =>
          cases y with
          | dic ls ys =>
            cases ls with
            | cons _ _ => cases hs
            | nil =>
              cases ys with
              | cons _ _ => cases hs
              | nil =>
                cases h1 with
                | @dic a _ vs _ g1 e1 r1 =>
                  cases h2 with
                  | @dic b _ ws _ g2 e2 r2 =>
                    cases q1; cases q2
                    by_cases e : a = b
                    · subst e; exact EqAt.same _
                    obtain ⟨_, na, us, k1, d1⟩ := I.hok a _ g1
                    obtain ⟨_, nb, zs, k2, d2⟩ := I.hok b _ g2
                    have eu : us = [] := by
                      have := k1.length
                      simpa using this.symm
                    have ez : zs = [] := by
                      have := k2.length
                      simpa using this.symm
                    subst eu ez
                    intro prog' w' E Q hq
                    have t : PySem.W.EqTree prog' w' s (n + 1) (.ref a) (.ref b) true := by
                      have z := PySem.W.EqTree.dicts (prog := prog') (w := w') (n := n) (knd := mixKind prog' w') (e := fun _ => true) e na nb (empty_dict d1) (empty_dict d2) (fun k v y h => nomatch h)
                      simpa using z
                    exact t.at A (by omega) E Q hq
          | _ => cases hs
  | n, .dct _ _, y, v, w, u1, u2, h1, h2, q1, q2, hs, A, hu => by cases n <;> cases y <;> cases hs
  | n, .ins _ _ _, y, v, w, u1, u2, h1, h2, q1, q2, hs, A, hu => by cases n <;> cases y <;> cases hs
  | n, .obj _ _ _, y, v, w, u1, u2, h1, h2, q1, q2, hs, A, hu => by cases n <;> cases y <;> cases hs
def isSq : D → Bool
  | .lst _ => true
  | .tup _ => true
  | _ => false
def rSame (K : PySem.W.Frag) (b : Bool) : R2 := fun x y H Q => ∃ dx dy, Rep K H x dx ∧ Rep K H y dy ∧ sameE 60 dx dy = true ∧ isSq dx = true ∧ Q (.bl b) H
theorem op_eqS (hu : X.A.units + 65 < cLine) : OpR X (compareOp .Eq) (rSame X.K true) := by
  intro pins s σ H x y v u Q I rx ry h
  obtain ⟨dx, dy, h1, h2, hs, hq, q⟩ := h
  cases dx with
  | lst xs =>
    cases dy with
    | lst ys =>
      cases h1 with
      | @lst a vs _ sq1 r1 =>
        cases h2 with
        | @lst b ws _ sq2 r2 =>
          cases rx; cases ry
          obtain ⟨its, p1, l1, _⟩ := I.list sq1
          obtain ⟨its2, p2, l2, _⟩ := I.list sq2
          obtain ⟨hl, hi⟩ := items_at r1 r2 p1 p2 (show sameEs 59 xs ys = true from hs)
          refine eq_listAt (e := fun _ => true) l1.isList l2.isList (by simpa using hl) (by omega) (fun j h1 h2 => ?_) ?_
          · obtain ⟨x, y, v, w, a1, a2, a3, a4, a5⟩ := hi j (by simpa using h1) (by simpa using h2)
            have := same_at I 59 x y v w _ _ a1 a2 a3 a4 a5 X.A.in1 (by show X.A.units + 1 + (59 + 1) < cLine; omega)
            simpa using this
          · rw [all_true]
            exact ⟨.bl true, H, I, rfl, q⟩
    | _ => cases hs
  | tup xs =>
    cases dy with
    | tup ys =>
      cases h1 with
      | @tup a vs _ sq1 r1 =>
        cases h2 with
        | @tup b ws _ sq2 r2 =>
          cases rx; cases ry
          obtain ⟨its, p1, l1, _⟩ := I.tuple sq1
          obtain ⟨its2, p2, l2, _⟩ := I.tuple sq2
          obtain ⟨hl, hi⟩ := items_at r1 r2 p1 p2 (show sameEs 59 xs ys = true from hs)
          have l1' : s.heap.IsTuple a its.toArray := l1
          have l2' : s.heap.IsTuple b its2.toArray := l2
          refine eq_tupleAt (e := fun _ => true) l1' l2' (by omega) (fun j h1 h2 => ?_) ?_
          · obtain ⟨x, y, v, w, a1, a2, a3, a4, a5⟩ := hi j (by simpa using h1) (by simpa using h2)
            have := same_at I 59 x y v w _ _ a1 a2 a3 a4 a5 X.A.in1 (by show X.A.units + 1 + (59 + 1) < cLine; omega)
            simpa using this
          · have e2 : ((List.range (min its.toArray.size its2.toArray.size)).all (fun _ => true) && its.toArray.size == its2.toArray.size) = true := by simp [hl]
            rw [e2]
            exact ⟨.bl true, H, I, rfl, q⟩
    | _ => cases hs
  | _ => cases hq
theorem op_neS (hu : X.A.units + 65 < cLine) : OpR X (compareOp .NotEq) (rSame X.K false) := by
  intro pins s σ H x y v u Q I rx ry h
  obtain ⟨dx, dy, h1, h2, hs, hq, q⟩ := h
  cases dx with
  | lst xs =>
    cases dy with
    | lst ys =>
      cases h1 with
      | @lst a vs _ sq1 r1 =>
        cases h2 with
        | @lst b ws _ sq2 r2 =>
          cases rx; cases ry
          obtain ⟨its, p1, l1, _⟩ := I.list sq1
          obtain ⟨its2, p2, l2, _⟩ := I.list sq2
          obtain ⟨hl, hi⟩ := items_at r1 r2 p1 p2 (show sameEs 59 xs ys = true from hs)
          have z := RcNeAt.lists (A := X.A) (s := s) (e := fun _ => true) l1.isList l2.isList (by simpa using hl) (by omega) (fun j h1 h2 => by
            obtain ⟨x, y, v, w, a1, a2, a3, a4, a5⟩ := hi j (by simpa using h1) (by simpa using h2)
            have := same_at I 59 x y v w _ _ a1 a2 a3 a4 a5 X.A.in1 (by show X.A.units + 1 + (59 + 1) < cLine; omega)
            simpa using this)
          rw [all_true] at z
          exact z X.prog X.w _ _ ⟨.bl false, H, I, rfl, q⟩
    | _ => cases hs
  | tup xs =>
    cases dy with
    | tup ys =>
      cases h1 with
      | @tup a vs _ sq1 r1 =>
        cases h2 with
        | @tup b ws _ sq2 r2 =>
          cases rx; cases ry
          obtain ⟨its, p1, l1, _⟩ := I.tuple sq1
          obtain ⟨its2, p2, l2, _⟩ := I.tuple sq2
          obtain ⟨hl, hi⟩ := items_at r1 r2 p1 p2 (show sameEs 59 xs ys = true from hs)
          have l1' : s.heap.IsTuple a its.toArray := l1
          have l2' : s.heap.IsTuple b its2.toArray := l2
          have z := RcNeAt.tuples (A := X.A) (s := s) (e := fun _ => true) l1' l2' (by omega) (fun j h1 h2 => by
            obtain ⟨x, y, v, w, a1, a2, a3, a4, a5⟩ := hi j (by simpa using h1) (by simpa using h2)
            have := same_at I 59 x y v w _ _ a1 a2 a3 a4 a5 X.A.in1 (by show X.A.units + 1 + (59 + 1) < cLine; omega)
            simpa using this)
          have e2 : ((List.range (min its.toArray.size its2.toArray.size)).all (fun _ => true) && its.toArray.size == its2.toArray.size) = true := by simp [hl]
          rw [e2] at z
          exact z X.prog X.w _ _ ⟨.bl false, H, I, rfl, q⟩
    | _ => cases hs
  | _ => cases hq
/-- == and != where what is not plain data is the same on both sides -/
def eqX (x y : D) : Option D := if (x.ok 60 && y.ok 60) = true then eqD x y else if (sameE 60 x y && isSq x) = true then some (.bl true) else none
def neX (x y : D) : Option D := if (x.ok 60 && y.ok 60) = true then neD x y else if (sameE 60 x y && isSq x) = true then some (.bl false) else none
theorem op_eqX (hu : X.A.units + 64 < cLine) (hu2 : X.A.units + 65 < cLine) : OpR X (compareOp .Eq) (fun x y H Q => rEqD X.K x y H Q ∨ rSame X.K true x y H Q) := (op_eqD hu).or (op_eqS hu2)
theorem op_neX (hu : X.A.units + 64 < cLine) (hu2 : X.A.units + 65 < cLine) : OpR X (compareOp .NotEq) (fun x y H Q => rNeD X.K x y H Q ∨ rSame X.K false x y H Q) := (op_neD hu).or (op_neS hu2)
theorem fl_eqX : Fl2 X.K (fun x y H Q => rEqD X.K x y H Q ∨ rSame X.K true x y H Q) eqX := fun x y dx dy d H hx hy h => by
  unfold eqX at h
  split at h
  · obtain ⟨f, q⟩ := fl_eq x y dx dy d H hx hy h
    exact ⟨f, fun Q z => .inl (q Q z)⟩
  · split at h
    · rename_i c
      obtain ⟨c1, c2⟩ := Bool.and_eq_true_iff.mp c
      cases h
      exact ⟨rfl, fun Q z => .inr ⟨dx, dy, hx, hy, c1, c2, z⟩⟩
    · cases h
theorem fl_neX : Fl2 X.K (fun x y H Q => rNeD X.K x y H Q ∨ rSame X.K false x y H Q) neX := fun x y dx dy d H hx hy h => by
  unfold neX at h
  split at h
  · obtain ⟨f, q⟩ := fl_ne x y dx dy d H hx hy h
    exact ⟨f, fun Q z => .inl (q Q z)⟩
  · split at h
    · rename_i c
      obtain ⟨c1, c2⟩ := Bool.and_eq_true_iff.mp c
      cases h
      exact ⟨rfl, fun Q z => .inr ⟨dx, dy, hx, hy, c1, c2, z⟩⟩
    · cases h
theorem eqX_self {d : D} (h : sameE 60 d d = true) (q : isSq d = true) : eqX d d = some (.bl true) := by
  unfold eqX
  by_cases c : (d.ok 60 && d.ok 60) = true
  · rw [if_pos c]
    exact eqD_self (Bool.and_eq_true_iff.mp c).1
  · rw [if_neg c, if_pos (by rw [h, q]; rfl)]
theorem neX_self {d : D} (h : sameE 60 d d = true) (q : isSq d = true) : neX d d = some (.bl false) := by
  unfold neX
  by_cases c : (d.ok 60 && d.ok 60) = true
  · rw [if_pos c]
    exact neD_self (Bool.and_eq_true_iff.mp c).1
  · rw [if_neg c, if_pos (by rw [h, q]; rfl)]
end
end Py

set_option Elab.async false
set_option linter.all false
set_option maxRecDepth 100000
set_option maxHeartbeats 4000000
/-! Own layer: sorted(set(t)) of a tuple; t * 0. -/
namespace Py
open PySem PySem.Spec PyProof.Rows L2
section
variable {P : Program} {w : World} {A : Around} {E : Value → Shared → Prop} {s : Shared}
set_option maxHeartbeats 8000000 in
theorem set_of_tuple {l : Addr} {items : Array Value} (ns : List Int) {Q : Value → Shared → Prop} (hh : A.handled = none) (hl : s.heap.IsTuple l items) (hit : IntsAre items.toList ns) (hb : ns.length + 1 < scanBound)
    (h : ∀ (h' : Heap) (tk c : Nat), SetR w h' s.heap.objs.size (fun j => decide (j ∈ ns)) c → c ≤ ns.length → (∀ b o, s.heap.get? b = some o → h'.get? b = some o) → Q (.ref s.heap.objs.size) { s with heap := h', toks := tk }) :
    wpAny (model P w) A (call (.type "set") [.ref l]) Q E s := by
  have sz : items.size = ns.length := by rw [← Array.length_toList]; exact IntsAre.length hit
  obtain ⟨c, tl, m1⟩ := F.called_set.mro
  have m2 := F.called_set.made
  have m3 := F.called_set.sub
  refine wpAny_call (codeAny_of_tree ?_)
  show wpAny _ _ (callAny (.type "set") _) _ _ _
  refine wpAny_pure ⟨Code.quiet_builtin _ (by decide +kernel), codeAny_builtin F.entry_type_call ?_⟩
  rw [Around.under_plain (weight_type_call_type "set" [.ref l] []) rfl]
  have m4 := F.called_set.notType
  have m5 := F.called_set.canCreate
  have m6 := F.typeCall_set_1 (.ref l)
  repeat (any_goals (first | assumption | wp_step))
  refine codeAny_mono (code_set_led1 (.ref l) (E := E) (Q₁ := fun obj s1 => obj = .ref s.heap.objs.size ∧ s1 = { s with heap := s.heap.push (bare w) }) ⟨rfl, rfl⟩) fun r s1 hr => ?_
  cases r with
  | error e => exact hr
  | ok fl =>
    cases fl with
    | ret obj =>
      obtain ⟨rfl, rfl⟩ := hr
      have hS : (s.heap.push (bare w)).get? s.heap.objs.size = some (bare w) := Heap.get?_push_size _ rfl
      have hT : Shared.TypeIs { s with heap := s.heap.push (bare w) } (.ref s.heap.objs.size) "set" := ⟨_, hS, rfl⟩
      have m7 := F.called_set.init.lookup
      have m8 := F.called_set.init.bind (.ref s.heap.objs.size)
      repeat (any_goals (first | assumption | wp_step))
      refine codeAny_mono (codeAny_call_builtin (R := wants (fun r s2 => r = .none ∧ ∃ h' tk c, s2 = { s with heap := h', toks := tk } ∧ SetR w h' s.heap.objs.size (fun j => decide (j ∈ ns)) c ∧ c ≤ ns.length ∧
          (∀ b o, s.heap.get? b = some o → h'.get? b = some o)) E) F.called_set.init.plain F.entry_set_init (check_set_init_1 hT ?_)) fun r2 s2 hr2 => ?_
      · obtain ⟨ol, ho, hcl, nl, hdl⟩ := hl
        obtain ⟨c1, d1, da1, sl1⟩ := ol
        simp only at hcl hdl
        subst hcl; subst hdl
        have ho1 : (s.heap.push (bare w)).get? l = some { cls := .type "tuple", dict := d1, data := .seq items nl, slots := sl1 } := Heap.get?_push_of_some _ ho
        have n1 := F.sub_tuple_set
        have n2 := F.sub_tuple_frozenset
        have n3 : (Value.type "tuple" == Value.type "dict") = false := by decide
        have hl1 : (s.heap.push (bare w)).IsTuple l items := ⟨_, ho1, rfl, nl, rfl⟩
        unfold Builtin.«set.__init__» noKeywords Builtin.Frozenset.updateFrom
        generalize hp : pyIter = PI
        wp_walk
        subst hp
        refine wpAny_pyIter_tuple hl1 ?_
        refine wpAny_bind (wpAny_runValue ?_)
        have lS : l < s.heap.objs.size := Heap.lt_size ho
        have hh3 : A.in1.in1.in1.handled = none := by simp [hh]
        have nI : l ≠ (s.heap.push (bare w)).objs.size := by
          rw [Heap.size_push]; exact Nat.ne_of_lt (Nat.lt_succ_of_lt lS)
        have sf : s.heap.objs.size ∉ [(s.heap.push (bare w)).objs.size, l] := by
          rw [Heap.size_push]; simp only [List.mem_cons, List.not_mem_nil, or_false, not_or]
          exact ⟨Nat.ne_of_lt (Nat.lt_succ_self _), Nat.ne_of_gt lS⟩
        have hv : ∀ (i : Nat) (v : Value), items[i]? = some v → ∃ k t, ns[i]? = some k ∧ v = .int k t := fun i v hv => by
          have hi : i < ns.length := by rw [← sz]; exact (Array.getElem?_eq_some_iff.mp hv).1
          obtain ⟨t, e⟩ := PyProof.Rows.IntsAre.int_at hit i v (by rw [Array.getElem?_toList]; exact hv)
          refine ⟨ns[i], t, List.getElem?_eq_getElem hi, ?_⟩
          rw [e, List.getD_eq_getElem?_getD, List.getElem?_eq_getElem hi] <;> rfl
        refine set_update_ints ((Walks.tuple hh3 _ l nI items).toS) s.heap.objs.size
          sf ns sz hb hv (items.size - 0) 0 _ (by omega) (Nat.zero_le _)
          ⟨⟨_, Heap.get?_push_size _ rfl, rfl, rfl⟩, (hl1.push _)⟩ ?hS0 ?hR
        case hS0 =>
          have hg : ((s.heap.push (bare w)).push { cls := .type "tuple_iterator", data := .fields #[.ref l, .int 0 0] }).get? s.heap.objs.size = some (bare w) := Heap.get?_push_of_some _ hS
          exact ⟨0, Nat.le_refl 0, setR_new_at hg⟩
        case hR =>
          intro s' c' hm hc' hS'
          obtain ⟨h', g2, d', tk', os'⟩ := s'
          have eg : g2 = s.gens := hm.gens
          have ed : d' = s.drawn := hm.drawn
          have eo : os' = s.os := hm.os
          subst eg; subst ed; subst eo
          show wpAny _ _ _ _ _ _
          refine wpAny_pure ?_
          show wpAny _ _ (ret Value.none) _ _ _
          rw [sz] at hc'
          refine wpAny_pure ⟨rfl, h', tk', c', rfl, hS', hc', fun b o e => ?_⟩
          have lb : b < s.heap.objs.size := Heap.lt_size e
          have n1 : b ≠ s.heap.objs.size := Nat.ne_of_lt lb
          have n2 : b ≠ (s.heap.push (bare w)).objs.size := by
            rw [Heap.size_push]; exact Nat.ne_of_lt (Nat.lt_succ_of_lt lb)
          exact hm.heap b o (by simp only [List.mem_cons, List.not_mem_nil, or_false, not_or]; exact ⟨n1, n2⟩) (Heap.get?_push_of_some _ (Heap.get?_push_of_some _ e))
      · cases r2 with
        | error e => exact hr2
        | ok fl2 =>
          cases fl2 with
          | ret r =>
            obtain ⟨rfl, h', tk, c', rfl, hS', hc', hk'⟩ := hr2
            repeat (any_goals (first | assumption | wp_step))
            exact h _ _ _ hS' hc' hk'
          | _ => exact hr2.elim
    | _ => exact hr.elim
end
section
variable {X : Cx}
def rSetOf2 (K : PySem.W.Frag) (w : World) : List V → Hp → VK → Prop := fun xs H Q => ∃ (l : Addr) (ns : List Int), xs = [V.ref l] ∧ (SqL K H l (ns.map V.int) ∨ SqT K H l (ns.map V.int)) ∧ ns.length < 64 ∧ ∀ (p : Addr) (c : Nat), c ≤ ns.length → H p = none → Q (.ref p) (upd H p (SetO w p (fun j => decide (j ∈ ns)) c))
theorem call_setOf2 (hc : X.calm = true) : CallR X (.type "set") (rSetOf2 X.K X.w) := by
  intro pins s σ H xs us Q I r h
  obtain ⟨l, ns, rfl, hs, hlt, q⟩ := h
  rw [Vals.ref1 r]
  rcases hs with hs | hs
  · obtain ⟨its, rv, pl, hz⟩ := I.list hs
    refine set_of_list ns (I.ok.hd hc) pl.isList (by simpa using ints_of_vals rv) (by unfold scanBound; omega) fun h' tk c R1 hcn k => ?_
    exact ⟨.ref _, upd H s.heap.objs.size (SetO X.w s.heap.objs.size (fun j => decide (j ∈ ns)) c), I.laid (t' := tk) k (Nat.le_refl _) (setO_new R1), rfl, q _ _ hcn (I.hok.fresh (Nat.le_refl _))⟩
  · obtain ⟨its, rv, pl, hz⟩ := I.tuple hs
    have pl' : s.heap.IsTuple l its.toArray := pl
    refine set_of_tuple ns (I.ok.hd hc) pl' (by simpa using ints_of_vals rv) (by unfold scanBound; omega) fun h' tk c R1 hcn k => ?_
    exact ⟨.ref _, upd H s.heap.objs.size (SetO X.w s.heap.objs.size (fun j => decide (j ∈ ns)) c), I.laid (t' := tk) k (Nat.le_refl _) (setO_new R1), rfl, q _ _ hcn (I.hok.fresh (Nat.le_refl _))⟩
variable {Γ : List Sh} {a b e : Expr} {f fa fb : En → Option D} {k ka kb : Kd} {pos p2 p3 p4 : Pos}
def srtT : D → Option D
  | .lst ds => (ints? ds).bind fun ns => if ns.length < 64 then some (.lst ((sdd ns).map D.int)) else none
  | .tup ds => (ints? ds).bind fun ns => if ns.length < 64 then some (.lst ((sdd ns).map D.int)) else none
  | _ => none
theorem s_sortset2 (hc : X.calm = true) (hm : X.mg "set" = none) (hm2 : X.mg "sorted" = none) (ha : SP X Γ e f k) (hgl : Gl X "set" := by rfl) (hgl2 : Gl X "sorted" := by rfl) (he : starEach [e] X.env = (false, eval e X.env) :: starEach [] X.env := by rfl)
    (he2 : starEach [.Call (.Name "set" p2) [e] [] p3] X.env = (false, eval (.Call (.Name "set" p2) [e] [] p3) X.env) :: starEach [] X.env := by rfl) :
    SP X Γ (.Call (.Name "sorted" p4) [.Call (.Name "set" p2) [e] [] p3] [] pos) (b1 f srtT) (.nw (.li .fz)) := by
  obtain ⟨t, p, q⟩ := ha.ex
  refine ⟨_, pe_callB (cr_sortedSet hc) hgl2 hm2 (by decide +kernel) (pa_cons (pe_callTy (call_setOf2 hc) hgl hm (by decide +kernel) (pa_cons p pa_nil he) (by decide) (by decide) he (by rfl)) pa_nil he2) (by decide) (by decide) he2 (by rfl), fun σ H Q env fp Z d E hf hQ => ?_⟩
  obtain ⟨y, hy, hd⟩ := bind1 hf
  refine q σ H _ env fp Z y E hy fun v H1 s1 h1 => ?_
  have key : ∀ (xs : List D) (p1 : Addr) (us : List V), ((ints? xs).bind fun ns => if ns.length < 64 then some (D.lst ((sdd ns).map D.int)) else none) = some d → v = .ref p1 → (SqL X.K H1 p1 us ∨ SqT X.K H1 p1 us) → Reps X.K (k.G fp Z H1) us xs → ∃ (l : Addr) (ns : List Int), [v] = [V.ref l] ∧ (SqL X.K H1 l (ns.map V.int) ∨ SqT X.K H1 l (ns.map V.int)) ∧ ns.length < 64 ∧ ∀ (p : Addr) (c : Nat), c ≤ ns.length → H1 p = none → rSortedSet X.w [V.ref p] (upd H1 p (SetO X.w p (fun j => decide (j ∈ ns)) c)) Q := fun xs p1 us hd ev l1 r1 => by
    obtain ⟨ns, hns, hd2⟩ := Option.bind_eq_some_iff.mp hd
    split at hd2
    · rename_i hl
      subst ev
      have e1 := ints?_ok hns
      subst e1
      have e2 := r1.ints
      subst e2
      refine ⟨_, _, rfl, l1, hl, fun p c hc' hp => ⟨_, _, _, rfl, upd_same, by omega, fun ms p5 pw mem _ hp5 => ?_⟩⟩
      have e3 : ms = sdd ns := pw_unique pw sdd_pw fun k => by rw [mem k, sdd_mem, decide_eq_true_eq]
      subst e3
      have e4 := (Option.some.inj hd2).symm
      subst e4
      exact hQ _ _ ((s1.trans (Sub.upd hp)).trans (Sub.upd hp5)) (new_list (c := true) E (s1.trans (Sub.upd hp)) hp5 Reps.ofInts)
    · cases hd2
  cases y with
  | lst xs =>
    obtain ⟨p1, us, ev, l1, r1⟩ := h1.lst
    exact key xs p1 us hd ev (.inl l1) r1
  | tup xs =>
    obtain ⟨p1, us, ev, l1, r1⟩ := h1.tup
    exact key xs p1 us hd ev (.inr l1) r1
  | _ => cases hd
/-! ### t * 0 -/
theorem tuple_mul0 (l : Addr) (items : Array Value) (n : Nat) (dd : Option Addr) (sl : Array (Option Value)) (u : Tok) (c1 : (items.isEmpty || ((0 : Int) == 1)) = false) :
    Meets (Builtin.«tuple.__mul__» ⟨[.ref l, .int 0 u], []⟩) (fun _ R s => s.heap.get? l = some { cls := .type "tuple", dict := dd, data := .seq items n, slots := sl } ∧
      R (.ok (.ret (Value.ref s.heap.objs.size))) { s with heap := s.heap.push { cls := Value.type "tuple", data := Data.seq #[] }, toks := s.toks }) :=
  .of_wp fun prog w A R s h => by
    obtain ⟨hp, g, d, tk, os⟩ := s
    obtain ⟨hl, h⟩ := h
    have f1 := AutoSeq1.idx_int
    wp_walk using wpAny_loadPart' hl
    repeat (first
      | (refine wpAny_ite_false (decide_eq_false (by rw [c1]; exact Bool.false_ne_true)) ?_; wp_walk using wpAny_loadPart' hl))
    exact ⟨_, rfl, h⟩
def rRepT0 (K : PySem.W.Frag) : R2 := fun x y H Q => ∃ l xs, x = .ref l ∧ y = .int 0 ∧ SqT K H l xs ∧ xs ≠ [] ∧ ∀ p, H p = none → Q (.ref p) (upd H p (.tup []))
theorem op_repT0 : OpR X (binaryOp .Mult) (rRepT0 X.K) := by
  intro pins s σ H x y v u Q I rx ry h
  obtain ⟨l, xs, rfl, rfl, hT, hne, q⟩ := h
  cases rx
  obtain ⟨t, rfl⟩ := ry
  obtain ⟨its, r, ⟨⟨cls, dd, data, sl⟩, ho, hc, n, hd⟩, hs⟩ := I.tuple hT
  simp only at hc hd
  subst hc hd
  have hle : its.length = xs.length := r.length.symm
  have hn : its ≠ [] := fun e => hne (by
    rw [e] at hle
    exact List.eq_nil_of_length_eq_zero hle.symm)
  have hi : its.toArray.isEmpty = false := by
    cases its with
    | nil => exact absurd rfl hn
    | cons a b => rfl
  have c1 : (its.toArray.isEmpty || ((0 : Int) == 1)) = false := by rw [hi]; rfl
  refine wpAny_binaryOp_repeat_ref (T := "tuple") (U := "int") (by decide) ⟨_, ho, rfl⟩ (fun s' => typeIs_int s' 0 t) noFill_tuple_mul PySem.F.fills_int_mul PySem.F.slot_int_rmul repeat_tuple PySem.F.slot_int_index.lookup
    (call_meets PySem.F.slot_int_rmul (typeIs_int s 0 t) PySem.F.entry_int_rmul (PySem.F.args_int_rmul_2 _ _) (int_rmul_tuple 0 t l its.toArray n dd sl)
      ⟨ho, rfl, ⟨_, ho, rfl⟩, call_meets PySem.F.slot_tuple_mul ⟨_, ho, rfl⟩ PySem.F.entry_tuple_mul (PySem.F.args_tuple_mul_2 _ _) (tuple_mul0 l its.toArray n dd sl t c1) ⟨ho, ?_⟩⟩)
  refine ⟨.ref s.heap.objs.size, _, I.laid (t' := s.toks) (o := .tup []) (fun b ob q => Heap.get?_push_of_some _ q) (Nat.le_refl _) ?_, rfl, q _ (I.hok.fresh (Nat.le_refl _))⟩
  exact ⟨Nat.zero_le _, [], .nil, IsTup.new _ _⟩
def muE (x y : D) : Option D := match x, y with
  | .tup (d :: ds), .int k => if k = 0 then some (.tup []) else muD (.tup (d :: ds)) (.int k)
  | x, y => muD x y
theorem s_mulE (ha : SP X Γ a fa ka) (hb : SP X Γ b fb kb) : SP X Γ (.BinOp a .Mult b pos) (b2 fa fb muE) (Kd.nt ka.clean) := by
  obtain ⟨ta, pa, qa⟩ := ha.ex
  obtain ⟨tb, pb, qb⟩ := hb.ex
  refine ⟨_, pe_op (op_mul.or (op_repT.or (op_repT1.or op_repT0))) pa pb, fun σ H Q env fp Z d E hf hQ => ?_⟩
  obtain ⟨x, y, hx, hy, hd⟩ := bind2 hf
  refine two qa qb E hx hy fun v w H' s h1 h2 => ?_
  have old : muD x y = some d → ((rI CMul fun i j => .int (i * j)) v w H' Q ∨ rRepT X.K v w H' Q ∨ rRepT1 X.K v w H' Q ∨ rRepT0 X.K v w H' Q) := fun hd => by
    cases y with
    | int j =>
      cases h2.rep
      cases x with
      | int i =>
        cases h1.rep
        simp only [muD] at hd
        split at hd
        · rename_i c
          cases hd
          exact .inl ⟨_, _, rfl, rfl, by unfold CMul; omega, hQ _ _ s (nt_of (.int _))⟩
        · cases hd
      | tup xs =>
        simp only [muD] at hd
        split at hd
        · rename_i c
          cases hd
          obtain ⟨c1, c2, c3, c4⟩ := c
          obtain ⟨p1, us, rfl, l1, r1⟩ := id h1.tup
          by_cases c5 : j = 1
          · subst c5
            refine .inr (.inr (.inl ⟨_, _, rfl, rfl, l1, hQ _ _ s ?_⟩))
            have e : (List.replicate (1 : Int).toNat xs).flatten = xs := by simp
            rw [e]
            exact h1.pass
          · refine .inr (.inl ⟨_, _, _, rfl, rfl, l1, fun z => c1 ?_, by omega, by omega, by rw [r1.length]; exact c4, fun p hp => hQ _ _ (s.trans (Sub.upd hp)) (new_tup E s hp (r1.rep _))⟩)
            exact List.eq_nil_of_length_eq_zero (by rw [← r1.length, z]; rfl)
        · cases hd
      | _ => cases hd
    | _ => cases x <;> cases hd
  unfold muE at hd
  split at hd
  · rename_i d0 ds0 k0
    split at hd
    · rename_i c
      cases hd
      subst c
      cases h2.rep
      obtain ⟨p1, us, rfl, l1, r1⟩ := h1.tup
      refine .inr (.inr (.inr ⟨_, _, rfl, rfl, l1, fun z => ?_, fun p hp => hQ _ _ (s.trans (Sub.upd hp)) (new_tup E s hp .nil)⟩))
      subst z
      cases r1
    · exact old hd
  · exact old hd
end
end Py

set_option Elab.async false
set_option linter.all false
set_option maxRecDepth 100000
set_option maxHeartbeats 4000000
namespace Py
open PySem PySem.Spec PyProof.Rows L2
/-! ### plain facts that pure laws share -/
theorem md (k : Int) (h : 0 < k) (i : Int) : mdI (.int i) (.int k) = some (.int (i % k)) := mdI_p h
theorem fd (k : Int) (h : 0 < k) (h2 : k < 4611686018427387904) (i : Int) : fdI (.int i) (.int k) = some (.int (i / k)) := fdI_p h h2
theorem wh_step {t : En → Option Bool} {b : SE} {env e : En} {n : Nat} (ht : t env = some true) (hb : b env = some (.nx, e)) : whN t b (n + 1) env = whN t b n e := by
  show (match t env with
    | some false => some (Fl.nx, env)
    | some true => (match b env with
      | some (.nx, e) => whN t b n e
      | some (.ct, e) => whN t b n e
      | some (.bk, e) => some (Fl.nx, e)
      | r => r)
    | none => none) = _
  rw [ht, hb]
theorem wh_end {t : En → Option Bool} {b : SE} {env : En} {n : Nat} (ht : t env = some false) : whN t b (n + 1) env = some (.nx, env) := by
  show (match t env with
    | some false => some (Fl.nx, env)
    | some true => (match b env with
      | some (.nx, e) => whN t b n e
      | some (.ct, e) => whN t b n e
      | some (.bk, e) => some (Fl.nx, e)
      | r => r)
    | none => none) = _
  rw [ht]
theorem imms_all : ∀ {l : List D}, (∀ d ∈ l, d.imm = true) → D.imms l = true
  | [], _ => rfl
  | d :: l, h => by
    show (d.imm && D.imms l) = true
    rw [h d (by simp), imms_all fun x hx => h x (by simp [hx])]
    rfl
theorem oks_all {n : Nat} : ∀ {ds : List D}, (∀ d ∈ ds, d.ok n = true) → D.oks n ds = true
  | [], _ => by cases n <;> rfl
  | d :: ds, h => by
    have e : (d.ok n && D.oks n ds) = true := by rw [h d (by simp), oks_all fun x hx => h x (by simp [hx])]; rfl
    cases n <;> exact e
theorem sames_all {n : Nat} : ∀ {ds : List D}, (∀ d ∈ ds, sameE n d d = true) → sameEs n ds ds = true
  | [], _ => by cases n <;> rfl
  | d :: ds, h => by
    have e : (sameE n d d && sameEs n ds ds) = true := by rw [h d (by simp), sames_all fun x hx => h x (by simp [hx])]; rfl
    cases n <;> exact e
theorem eqX_list {ds : List D} (h : ∀ d ∈ ds, sameE 59 d d = true) : eqX (.lst ds) (.lst ds) = some (.bl true) := eqX_self (show sameEs 59 ds ds = true from sames_all h) rfl
theorem neX_list {ds : List D} (h : ∀ d ∈ ds, sameE 59 d d = true) : neX (.lst ds) (.lst ds) = some (.bl false) := neX_self (show sameEs 59 ds ds = true from sames_all h) rfl
theorem cut_nn {α : Type} (xs : List α) (a b : Nat) : cut xs (some (a : Int)) (some (b : Int)) = (xs.drop (min a xs.length)).take (min b xs.length - min a xs.length) := by
  unfold cut
  rw [HT.sIx_nat, HT.sIx_nat]
theorem cut_n {α : Type} (xs : List α) (b : Nat) : cut xs none (some (b : Int)) = xs.take b := by
  unfold cut
  rw [HT.sIx_nat, HT.sIx_none]
  simp
/-- left for good -/
def gone : Fl → Bool
  | .rt _ => true
  | .ex _ _ => true
  | _ => false
/-- a loop that is left at the place behind pre -/
theorem for_exit {as : D → En → Option En} {b : SE} {I : Nat → En → Prop} {J : En → Prop} {fl : Fl} (hf : gone fl = true) (d : D) (post : List D) : ∀ (pre : List D) (k : Nat) (env : En),
    (∀ i env d, pre[i]? = some d → I (k + i) env → ∃ e1, as d env = some e1 ∧ ∃ e2, (b e1 = some (.nx, e2) ∨ b e1 = some (.ct, e2)) ∧ I (k + i + 1) e2) →
    (∀ env, I (k + pre.length) env → ∃ e1, as d env = some e1 ∧ ∃ e2, b e1 = some (fl, e2) ∧ J e2) → I k env → ∃ e2, forL as b (pre ++ d :: post) env = some (fl, e2) ∧ J e2
  | [], k, env, _, last, h => by
    obtain ⟨e1, h1, e2, h2, h3⟩ := last env h
    refine ⟨e2, ?_, h3⟩
    show forL as b (d :: post) env = _
    unfold forL
    rw [h1]
    show (match b e1 with
      | some (.nx, e2) => forL as b post e2
      | some (.ct, e2) => forL as b post e2
      | some (.bk, e2) => some (.nx, e2)
      | r => r) = _
    rw [h2]
    cases fl <;> first | rfl | cases hf
  | x :: pre, k, env, step, last, h => by
    obtain ⟨e1, h1, e2, h2, h3⟩ := step 0 env x rfl h
    obtain ⟨e3, h4, h5⟩ := for_exit hf d post (I := I) (J := J) pre (k + 1) e2 (fun i env d hd hi => by
      have := step (i + 1) env d (by simpa using hd) (by rw [show k + (i + 1) = k + 1 + i by omega]; exact hi)
      rw [show k + (i + 1) + 1 = k + 1 + i + 1 by omega] at this
      exact this) (fun env hi => last env (by rw [List.length_cons, show k + (pre.length + 1) = k + 1 + pre.length by omega]; exact hi)) h3
    refine ⟨e3, ?_, h5⟩
    show forL as b (x :: (pre ++ d :: post)) env = _
    unfold forL
    rw [h1]
    rcases h2 with h2 | h2 <;> (simp only [h2]; exact h4)
abbrev rgX (n : Nat) : List D := (List.range n).map fun (i : Nat) => D.int (i : Int)
theorem range_at {n i : Nat} {d : D} (h : ((List.range n).map fun (i : Nat) => D.int (i : Int))[i]? = some d) : i < n ∧ d = .int i := by
  rw [List.getElem?_map] at h
  obtain ⟨j, hj, e⟩ := Option.map_eq_some_iff.mp h
  obtain ⟨h1, h2⟩ := List.getElem?_eq_some_iff.mp hj
  rw [List.getElem_range] at h2
  subst h2
  exact ⟨by simpa using h1, e.symm⟩
theorem split_range {n i : Nat} (h : i < n) : ∃ post, rgX n = rgX i ++ D.int (i : Int) :: post := by
  obtain ⟨k, rfl⟩ : ∃ k, n = i + (k + 1) := ⟨n - i - 1, by omega⟩
  refine ⟨((List.range k).map fun j => D.int ((i + 1 + j : Nat) : Int)), ?_⟩
  show (List.range (i + (k + 1))).map _ = _
  rw [List.range_add, List.map_append, List.range_succ_eq_map, List.map_cons, List.map_cons, List.map_map, List.map_map]
  have e : (List.range k).map ((fun (i : Nat) => D.int (i : Int)) ∘ (fun x => i + x) ∘ Nat.succ) = (List.range k).map fun j => D.int ((i + 1 + j : Nat) : Int) := List.map_congr_left fun j hj => by
    show D.int ((i + (j + 1) : Nat) : Int) = D.int ((i + 1 + j : Nat) : Int)
    rw [show i + (j + 1) = i + 1 + j by omega]
  rw [← e]
  rfl
theorem rg_at {n i : Nat} {d : D} (h : (rgX n)[i]? = some d) : i < n ∧ d = .int i := range_at h
theorem rgX_len (n : Nat) : (rgX n).length = n := by rw [List.length_map, List.length_range]
theorem en_at : ∀ {xs : List D} {k i : Nat} {d : D}, (enL k xs)[i]? = some d → ∃ x, xs[i]? = some x ∧ d = .tup [.int ((k + i : Nat) : Int), x]
  | [], _, _, _, h => by simp [enL] at h
  | x :: xs, k, 0, d, h => by
    have h' : some (D.tup [.int (k : Nat), x]) = some d := h
    cases h'
    exact ⟨x, rfl, rfl⟩
  | x :: xs, k, i + 1, d, h => by
    obtain ⟨y, h1, h2⟩ := en_at (xs := xs) (k := k + 1) (i := i) (by simpa [enL] using h)
    exact ⟨y, by simpa using h1, by rw [h2, show k + 1 + i = k + (i + 1) by omega]⟩
theorem en_len : ∀ {xs : List D} {k : Nat}, (enL k xs).length = xs.length
  | [], _ => rfl
  | x :: xs, k => by
    show (enL (k + 1) xs).length + 1 = _
    rw [en_len]
    rfl
theorem st_at {xs : List D} {i : Nat} {d : D} (h : i < xs.length) : stL (.int (i : Int)) d xs = some (xs.set i d) := by
  show (ixN xs.length (i : Int)).map _ = _
  have e : ixN xs.length (i : Int) = some i := by
    unfold ixN
    rw [if_pos (by omega), if_pos (by omega), Int.toNat_natCast]
  rw [e]
  rfl
theorem st_end {xs : List D} {d : D} (h : 0 < xs.length) : stL (.int (-1)) d xs = some (xs.set (xs.length - 1) d) := by
  show (ixN xs.length (-1)).map _ = _
  have e : ixN xs.length (-1) = some (xs.length - 1) := by
    unfold ixN
    rw [if_neg (by omega), if_pos (by omega)]
    congr 1
    omega
  rw [e]
  rfl
theorem ca_len (xs ys : List D) (h : xs.length + ys.length ≤ 16777216) : caL (.lst xs) (.lst ys) = some (.lst (xs ++ ys)) := if_pos (by rw [sizeLine_eq]; exact h)
theorem cut_m1 {α : Type} (xs : List α) (h : 0 < xs.length) : cut xs none (some (-1)) = xs.take (xs.length - 1) := by
  unfold cut
  have e : HT.sIx xs.length xs.length (some (-1)) = xs.length - 1 := by
    show (if (-1 : Int) < 0 then ((-1 : Int) + (xs.length : Int)).toNat else min (-1 : Int).toNat xs.length) = _
    rw [if_pos (by decide)]
    omega
  rw [e, HT.sIx_none]
  simp
theorem slL_n (xs : List D) (b : Nat) : slL (.lst xs) none (some (b : Int)) = some (.lst (xs.take b)) := by
  show some (D.lst (cut xs none (some (b : Int)))) = _
  rw [cut_n]
theorem at_q {xs : List D} {i : Nat} {d : D} (h : xs[i]? = some d) : atI xs (i : Int) = some d := by
  obtain ⟨h1, h2⟩ := List.getElem?_eq_some_iff.mp h
  rw [at_nat h1, h2]
end Py

set_option Elab.async false
set_option linter.all false
set_option maxRecDepth 100000
set_option maxHeartbeats 4000000
/-! Own layer: == and != of lists of unlike length, whatever lies in them. -/
namespace Py
open PySem PySem.Spec PyProof.Rows L2 PySem.SeqAt
section
variable {X : Cx}
def rLen (K : PySem.W.Frag) (b : Bool) : R2 := fun x y H Q => ∃ xs ys, Rep K H x (.lst xs) ∧ Rep K H y (.lst ys) ∧ xs.length ≠ ys.length ∧ Q (.bl b) H
theorem op_eqLen (hu : X.A.units + 64 < cLine) : OpR X (compareOp .Eq) (rLen X.K false) := by
  intro pins s σ H x y v u Q I rx ry h
  obtain ⟨xs, ys, h1, h2, hne, q⟩ := h
  cases h1 with
  | @lst a vs _ sq1 r1 =>
    cases h2 with
    | @lst b ws _ sq2 r2 =>
      cases rx; cases ry
      obtain ⟨its, p1, l1, _⟩ := I.list sq1
      obtain ⟨its2, p2, l2, _⟩ := I.list sq2
      have e1 := r1.length
      have e2 := r2.length
      have e3 := p1.length
      have e4 := p2.length
      exact eq_list_lengthsAt l1.isList l2.isList (by simp; omega) (by omega) ⟨.bl false, H, I, rfl, q⟩
theorem op_neLen (hu : X.A.units + 64 < cLine) : OpR X (compareOp .NotEq) (rLen X.K true) := by
  intro pins s σ H x y v u Q I rx ry h
  obtain ⟨xs, ys, h1, h2, hne, q⟩ := h
  cases h1 with
  | @lst a vs _ sq1 r1 =>
    cases h2 with
    | @lst b ws _ sq2 r2 =>
      cases rx; cases ry
      obtain ⟨its, p1, l1, _⟩ := I.list sq1
      obtain ⟨its2, p2, l2, _⟩ := I.list sq2
      have e1 := r1.length
      have e2 := r2.length
      have e3 := p1.length
      have e4 := p2.length
      exact RcNeAt.lists_lengths (A := X.A) l1.isList l2.isList (by simp; omega) (by omega) X.prog X.w _ _ ⟨.bl true, H, I, rfl, q⟩
def lenNe : D → D → Bool
  | .lst xs, .lst ys => decide (xs.length ≠ ys.length)
  | _, _ => false
/-- == and != where besides lists of unlike length are let by -/
def eqZ (x y : D) : Option D := if lenNe x y = true then some (.bl false) else eqX x y
def neZ (x y : D) : Option D := if lenNe x y = true then some (.bl true) else neX x y
theorem op_eqZ (hu : X.A.units + 64 < cLine) (hu2 : X.A.units + 65 < cLine) : OpR X (compareOp .Eq) (fun x y H Q => (rEqD X.K x y H Q ∨ rSame X.K true x y H Q) ∨ rLen X.K false x y H Q) := (op_eqX hu hu2).or (op_eqLen hu)
theorem op_neZ (hu : X.A.units + 64 < cLine) (hu2 : X.A.units + 65 < cLine) : OpR X (compareOp .NotEq) (fun x y H Q => (rNeD X.K x y H Q ∨ rSame X.K false x y H Q) ∨ rLen X.K true x y H Q) := (op_neX hu hu2).or (op_neLen hu)
theorem lenNe_of {x y : D} (h : lenNe x y = true) : ∃ xs ys, x = .lst xs ∧ y = .lst ys ∧ xs.length ≠ ys.length := by
  cases x <;> cases y <;> first | exact ⟨_, _, rfl, rfl, of_decide_eq_true h⟩ | cases h
theorem fl_eqZ : Fl2 X.K (fun x y H Q => (rEqD X.K x y H Q ∨ rSame X.K true x y H Q) ∨ rLen X.K false x y H Q) eqZ := fun x y dx dy d H hx hy h => by
  unfold eqZ at h
  split at h
  · rename_i c
    obtain ⟨xs, ys, rfl, rfl, c2⟩ := lenNe_of c
    cases h
    exact ⟨rfl, fun Q z => .inr ⟨xs, ys, hx, hy, c2, z⟩⟩
  · obtain ⟨f, q⟩ := fl_eqX x y dx dy d H hx hy h
    exact ⟨f, fun Q z => .inl (q Q z)⟩
theorem fl_neZ : Fl2 X.K (fun x y H Q => (rNeD X.K x y H Q ∨ rSame X.K false x y H Q) ∨ rLen X.K true x y H Q) neZ := fun x y dx dy d H hx hy h => by
  unfold neZ at h
  split at h
  · rename_i c
    obtain ⟨xs, ys, rfl, rfl, c2⟩ := lenNe_of c
    cases h
    exact ⟨rfl, fun Q z => .inr ⟨xs, ys, hx, hy, c2, z⟩⟩
  · obtain ⟨f, q⟩ := fl_neX x y dx dy d H hx hy h
    exact ⟨f, fun Q z => .inl (q Q z)⟩
end
mutual
theorem same_ok : ∀ {n : Nat} {d : D}, d.ok n = true → sameE n d d = true
  | n, .non, _ => by cases n <;> rfl
  | n, .bl b, _ => by cases n <;> exact decide_eq_true rfl
  | n, .int i, _ => by cases n <;> exact decide_eq_true rfl
  | n, .str x, _ => by cases n <;> exact decide_eq_true rfl
  | n + 1, .tup xs, h => same_oks (n := n) h
  | n + 1, .lst xs, h => same_oks (n := n) h
  | 0, .tup xs, h => by cases h
  | 0, .lst xs, h => by cases h
  | _, .dic _ _, h => by simp [D.ok] at h
  | _, .dct _ _, h => by simp [D.ok] at h
  | _, .ins _ _ _, h => by simp [D.ok] at h
theorem same_oks : ∀ {n : Nat} {ds : List D}, D.oks n ds = true → sameEs n ds ds = true
  | n, [], _ => by cases n <;> rfl
  | n, d :: ds, h => by
    have h' := Bool.and_eq_true_iff.mp (show (d.ok n && D.oks n ds) = true by cases n <;> exact h)
    have e : (sameE n d d && sameEs n ds ds) = true := by rw [same_ok h'.1, same_oks h'.2]; rfl
    cases n <;> exact e
end
theorem eqZ_nil {d : D} {ds : List D} : eqZ (.lst (d :: ds)) (.lst []) = some (.bl false) := rfl
theorem neZ_list {ds : List D} (h : ∀ d ∈ ds, sameE 59 d d = true) : neZ (.lst ds) (.lst ds) = some (.bl false) := by
  unfold neZ
  rw [if_neg (by unfold lenNe; simp), neX_list h]
theorem eqZ_i {a b : Int} : eqZ (.int a) (.int b) = some (.bl (decide (a = b))) := rfl
theorem neZ_i {a b : Int} : neZ (.int a) (.int b) = some (.bl (!decide (a = b))) := rfl
end Py

set_option Elab.async false
set_option linter.all false
set_option maxRecDepth 100000
set_option maxHeartbeats 4000000
/-! Own layer: tests with effects; list comprehensions with such tests. -/
namespace Py
open PySem PySem.Spec PyProof.Rows L2
inductive Rb
  | ok (b : Bool)
  | ex (c : Nat) (d : D)
abbrev IT := En → Option (Rb × En)
def SmT (K : PySem.W.Frag) (xc : Nat → Addr) (W : WX) (Γ : List Sh) (f : IT) (t : TT) : Prop :=
  ∀ (σ : L2.St) (H : Hp) (Q : Bool → Hp → Prop) (env : En) (fp Z : List Addr) (r : Rb) (env' : En), EOk K Γ env σ H fp Z → f env = some (r, env') →
    (∀ H' fp', EOk K Γ env' σ H' fp' Z → Ext H fp H' fp' → match r with
      | .ok b => Q b H'
      | .ex c d => ∀ cls od, XOk K xc fp' Z c d cls od H' → W cls od σ H') → t σ H Q
structure STI (X : Cx) (xc : Nat → Addr) (W : WX) (Γ : List Sh) (e : Expr) (f : IT) : Prop where
  ex : ∃ t, PT X e t ∧ SmT X.K xc W Γ f t
structure SWI (X : Cx) (xc : Nat → Addr) (W : WX) (Γ : List Sh) (e : Expr) (f : IT) : Prop where
  ex : ∃ t, PW X e t ∧ SmT X.K xc W Γ f t
def t2i (f : En → Option Bool) : IT := fun env => (f env).map fun b => (.ok b, env)
def iT (g : IE) (q : D → Option Bool) : IT := fun env => match g env with
  | some (.ok d, e) => (q d).map fun b => (.ok b, e)
  | some (.ex c d, e) => some (.ex c d, e)
  | none => none
theorem iT_ok {g : IE} {q : D → Option Bool} {env e' : En} {r : Rb} (h : iT g q env = some (r, e')) : (∃ d b, g env = some (.ok d, e') ∧ q d = some b ∧ r = .ok b) ∨ ∃ c d, g env = some (.ex c d, e') ∧ r = .ex c d := by
  unfold iT at h
  split at h
  · rename_i d e1 h1
    obtain ⟨b, h2, z⟩ := Option.map_eq_some_iff.mp h
    cases z
    exact .inl ⟨d, b, h1, h2, rfl⟩
  · rename_i c d e1 h1
    cases h
    exact .inr ⟨c, d, h1, rfl⟩
  · cases h
def iTB (f : IT) (g : Bool → IT) : IT := fun env => match f env with
  | some (.ok b, e) => g b e
  | some (.ex c d, e) => some (.ex c d, e)
  | none => none
theorem iTB_ok {f : IT} {g : Bool → IT} {env e' : En} {r : Rb} (h : iTB f g env = some (r, e')) : (∃ b e1, f env = some (.ok b, e1) ∧ g b e1 = some (r, e')) ∨ ∃ c d, f env = some (.ex c d, e') ∧ r = .ex c d := by
  unfold iTB at h
  split at h
  · rename_i b e1 h1; exact .inl ⟨b, e1, h1, h⟩
  · rename_i c d e1 h1; cases h; exact .inr ⟨c, d, h1, rfl⟩
  · cases h
def tNI (f : IT) : IT := iTB f fun b env => some (.ok (!b), env)
def tAI (f g : IT) : IT := iTB f fun b env => if b = true then g env else some (.ok false, env)
def tOI (f g : IT) : IT := iTB f fun b env => if b = true then some (.ok true, env) else g env
noncomputable def qIfI (t : IT) (f g : SE) : SE := fun env => match t env with
  | some (.ok true, e) => f e
  | some (.ok false, e) => g e
  | some (.ex c d, e) => some (.ex c d, e)
  | none => none
section
variable {X : Cx} {xc xc2 : Nat → Addr} {W : WX} {np : Nat} {Γ : List Sh} {rk : Kd} {a b c e tg iter elt : Expr} {rest : List Expr} {sts sts2 : List Stmt} {f g : SE} {ga gb : IE} {ka kb ke : Kd} {ti tj : IT} {scope : Scope} {own : List (Str × Nat)} {pos : Pos} {it : En → Option (List D)} {as : D → En → Option En} {fe : IE} {ix : List Nat}
theorem sti_st {h : En → Option Bool} (hc : ST X Γ a h) : STI X xc W Γ a (t2i h) := by
  obtain ⟨t, p, q⟩ := hc.ex
  refine ⟨t, p, fun σ H Q env fp Z r env' E hf hQ => ?_⟩
  obtain ⟨b, hb, z⟩ := Option.map_eq_some_iff.mp hf
  cases z
  exact q σ H Q env fp Z b E hb fun H1 s1 => hQ H1 fp (E.same s1) (Ext.same s1)
theorem sti_cmp {op : CmpOp} {r : R2} {m : D → D → Option D} (ho : OpR X (compareOp op) r) (hg : Fl2 X.K r m) (ha : SI X xc W Γ a ga ka) (hb : SI X xc W Γ b gb kb) (hm : behindInMarks op b = false := by first | exact nomark _ | rfl) (ca : ka.cu = true := by rfl) :
    STI X xc W Γ (.Compare a [op] [b] pos) (iT (iB ga fun x => iB gb fun y env => (m x y).map fun z => (.ok z, env)) asB) := by
  obtain ⟨ta, pa, qa⟩ := ha.ex
  obtain ⟨tb, pb, qb⟩ := hb.ex
  refine ⟨_, pt_cmpR ho pa pb hm, fun σ H Q env fp Z rr env' E hf hQ => ?_⟩
  have tw := iTwo (k := .u) (R := fun v w H Q => r v w H Q) qa qb ca (m := m) fun x y d v w H H' f0 fp Z Q env σ hd E h1 h2 hQ => by
    obtain ⟨f, q⟩ := hg v w x y d H' h1.rep h2.rep hd
    exact q Q (hQ _ _ Sub.refl (Rep.ofFlat f))
  rcases iT_ok hf with ⟨d, b, h1, h2, rfl⟩ | ⟨cc, dd, h1, rfl⟩
  · have e := asB_ok h2
    subst e
    refine tw σ H _ env fp Z _ env' E h1 fun H1 f1 E1 x1 v hv => ⟨b, ?_, hQ H1 f1 E1 x1⟩
    have z := hv.hk.rep
    cases z
    rfl
  · exact tw σ H _ env fp Z _ env' E h1 fun H1 f1 E1 x1 cls od hx => hQ H1 f1 E1 x1 cls od hx
theorem sti_tru (ha : SI X xc W Γ a ga ka) (he : ∀ whole, isTrue a X.env whole = (do let v ← whole; standAt a.pos; holding [v] (truthy v)) := by intro _; rfl) : STI X xc W Γ a (iT ga truD) := by
  obtain ⟨ta, pa, qa⟩ := ha.ex
  refine ⟨_, pt_truth pa he, fun σ H Q env fp Z r env' E hf hQ => ?_⟩
  rcases iT_ok hf with ⟨x, b, h1, hd, rfl⟩ | ⟨cc, dd, h1, rfl⟩
  · refine qa σ H _ env fp Z _ env' E h1 fun H1 f1 E1 x1 v hv => ⟨b, ?_, hQ H1 f1 E1 x1⟩
    have r := hv.hk.rep
    cases x with
    | non => cases hd; cases r; rfl
    | bl _ => cases hd; cases r; rfl
    | int _ => cases hd; cases r; rfl
    | str z =>
      simp only [truD] at hd
      split at hd
      · rename_i hl; cases hd; cases r; exact ⟨hl, rfl⟩
      · cases hd
    | lst z =>
      cases hd
      cases r with
      | lst q r => exact .inl ⟨_, q, by cases r <;> rfl⟩
    | tup z =>
      cases hd
      cases r with
      | tup q r => exact .inr (.inl ⟨_, q, by cases r <;> rfl⟩)
    | _ => cases hd
  · exact qa σ H _ env fp Z _ env' E h1 fun H1 f1 E1 x1 cls od hx => hQ H1 f1 E1 x1 cls od hx
theorem sti_not (h : STI X xc W Γ a ti) : STI X xc W Γ (.UnaryOp .Not a pos) (tNI ti) := by
  obtain ⟨t, p, q⟩ := h.ex
  refine ⟨_, pt_not p, fun σ H Q env fp Z r env' E hf hQ => ?_⟩
  rcases iTB_ok hf with ⟨b, e1, h1, h2⟩ | ⟨cc, dd, h1, rfl⟩
  · cases h2
    exact q σ H _ env fp Z _ _ E h1 fun H1 f1 E1 x1 => hQ H1 f1 E1 x1
  · exact q σ H _ env fp Z _ env' E h1 fun H1 f1 E1 x1 cls od hx => hQ H1 f1 E1 x1 cls od hx
theorem SWI.sti (h : SWI X xc W Γ a ti) : STI X xc W Γ a ti := by
  obtain ⟨t, p, q⟩ := h.ex
  exact ⟨t, p.pt, q⟩
theorem swi_and1 (h : STI X xc W Γ a ti) : SWI X xc W Γ (.BoolOp .And [a] pos) ti := by
  obtain ⟨t, p, q⟩ := h.ex
  exact ⟨t, pw_and1 p, q⟩
theorem swi_or1 (h : STI X xc W Γ a ti) : SWI X xc W Γ (.BoolOp .Or [a] pos) ti := by
  obtain ⟨t, p, q⟩ := h.ex
  exact ⟨t, pw_or1 p, q⟩
theorem swi_and (h : STI X xc W Γ a ti) (h2 : SWI X xc W Γ (.BoolOp .And (b :: rest) pos) tj) : SWI X xc W Γ (.BoolOp .And (a :: b :: rest) pos) (tAI ti tj) := by
  obtain ⟨t, p, q⟩ := h.ex
  obtain ⟨t2, p2, q2⟩ := h2.ex
  refine ⟨_, pw_and p p2, fun σ H Q env fp Z r env' E hf hQ => ?_⟩
  rcases iTB_ok hf with ⟨x, e1, h1, hf⟩ | ⟨cc, dd, h1, rfl⟩
  · refine q σ H _ env fp Z _ e1 E h1 fun H1 f1 E1 x1 => ?_
    cases x with
    | true =>
      refine iteT ?_
      rw [if_pos rfl] at hf
      refine q2 σ H1 _ e1 f1 Z r env' E1 hf fun H2 f2 E2 x2 => ?_
      have := hQ H2 f2 E2 (x1.trans x2)
      cases r with
      | ok b => exact this
      | ex cc dd => exact this
    | false =>
      refine iteF ?_
      rw [if_neg Bool.false_ne_true] at hf
      cases hf
      exact hQ H1 f1 E1 x1
  · exact q σ H _ env fp Z _ env' E h1 fun H1 f1 E1 x1 cls od hx => hQ H1 f1 E1 x1 cls od hx
theorem swi_or (h : STI X xc W Γ a ti) (h2 : SWI X xc W Γ (.BoolOp .Or (b :: rest) pos) tj) : SWI X xc W Γ (.BoolOp .Or (a :: b :: rest) pos) (tOI ti tj) := by
  obtain ⟨t, p, q⟩ := h.ex
  obtain ⟨t2, p2, q2⟩ := h2.ex
  refine ⟨_, pw_or p p2, fun σ H Q env fp Z r env' E hf hQ => ?_⟩
  rcases iTB_ok hf with ⟨x, e1, h1, hf⟩ | ⟨cc, dd, h1, rfl⟩
  · refine q σ H _ env fp Z _ e1 E h1 fun H1 f1 E1 x1 => ?_
    cases x with
    | true =>
      refine iteT ?_
      rw [if_pos rfl] at hf
      cases hf
      exact hQ H1 f1 E1 x1
    | false =>
      refine iteF ?_
      rw [if_neg Bool.false_ne_true] at hf
      refine q2 σ H1 _ e1 f1 Z r env' E1 hf fun H2 f2 E2 x2 => ?_
      have := hQ H2 f2 E2 (x1.trans x2)
      cases r with
      | ok b => exact this
      | ex cc dd => exact this
  · exact q σ H _ env fp Z _ env' E h1 fun H1 f1 E1 x1 cls od hx => hQ H1 f1 E1 x1 cls od hx
theorem qs_ifI (hc : STI X xc W Γ c ti) (ha : SSs X xc W np Γ rk sts f) (hb : SSs X xc W np Γ rk sts2 g) : SS X xc W np Γ rk (.If c sts sts2 pos) (qIfI ti f g) := by
  obtain ⟨t, p, q⟩ := hc.ex
  obtain ⟨ta, pa, qa⟩ := ha.ex
  obtain ⟨tb, pb, qb⟩ := hb.ex
  refine ⟨_, ps_if p pa pb, fun D σ H env fp Z fl env' E hf hQ => ?_⟩
  unfold qIfI at hf
  split at hf
  · rename_i e1 h1
    refine q σ H _ env fp Z _ e1 E h1 fun H1 f1 E1 x1 => ?_
    refine iteT ?_
    exact qa D σ H1 e1 f1 Z fl env' E1 hf fun σ2 H2 f2 E2 x2 r2 => (hQ σ2 H2 f2 E2 (x1.trans x2) r2).ext x1
  · rename_i e1 h1
    refine q σ H _ env fp Z _ e1 E h1 fun H1 f1 E1 x1 => ?_
    refine iteF ?_
    exact qb D σ H1 e1 f1 Z fl env' E1 hf fun σ2 H2 f2 E2 x2 r2 => (hQ σ2 H2 f2 E2 (x1.trans x2) r2).ext x1
  · rename_i cc dd e1 h1
    cases hf
    exact q σ H _ env fp Z _ env' E h1 fun H1 f1 E1 x1 cls od hx => hQ σ H1 f1 E1 x1 Prot.refl cls od hx
  · cases hf
def ttecan (K : PySem.W.Frag) (xc : Nat → Addr) (W : WX) (Γ : List Sh) (f : IT) : TT := fun σ H Q => ∃ env fp Z r env', EOk K Γ env σ H fp Z ∧ f env = some (r, env') ∧ ∀ H' fp', EOk K Γ env' σ H' fp' Z → Ext H fp H' fp' → match r with
  | .ok b => Q b H'
  | .ex c d => ∀ cls od, XOk K xc fp' Z c d cls od H' → W cls od σ H'
theorem STI.can (h : STI X xc W Γ e ti) : PT X e (ttecan X.K xc W Γ ti) := by
  obtain ⟨t, p, q⟩ := h.ex
  exact weakPT p fun σ H Q ⟨env, fp, Z, r, env', E, hf, hQ⟩ => q σ H Q env fp Z r env' E hf hQ
def lcITL (own : List Nat) (as : D → En → Option En) (ti : IT) (fe : IE) : En → List D → Option (List D × En)
  | env, [] => some ([], env)
  | env, d :: ds => (as d (wipeE own env)).bind fun e1 => match ti e1 with
    | some (.ok true, e2) => (match fe e2 with
      | some (.ok y, e3) => (lcITL own as ti fe (wipeE own e3) ds).map fun r => (y :: r.1, r.2)
      | _ => none)
    | some (.ok false, e2) => lcITL own as ti fe (wipeE own e2) ds
    | _ => none
def lcIT (own : List Nat) (it : En → Option (List D)) (as : D → En → Option En) (ti : IT) (fe : IE) : IE := fun env => (it env).bind fun xs => (lcITL own as ti fe env xs).bind fun r => (lstD r.1).map fun v => (.ok v, r.2)
theorem si_lct (hi : SPI X Γ tg iter it false) (ok : BlkOk X.N X.env.scope scope own) (hg : BlkA X scope fun X => SG X 0 Γ tg as ix) (ht : BlkA X scope fun X => STI X xc2 (fun _ _ _ _ => False) Γ c ti) (he : BlkA X scope fun X => SI X xc2 (fun _ _ _ _ => False) Γ elt fe ke) (hN : X.N.Nodup) (hix : ∀ i ∈ ix, i ∈ own.map (·.2) := by decide) (hΓ : ∀ i ∈ own.map (·.2), ∃ s, Γ[i]? = some s) (ck : ke.cu = true := by rfl) (hc : X.calm = true := by rfl) (hs : ∀ x, foldedSetIterable iter X.env x = pure x := by intro _; rfl) :
    SI X xc W Γ (.ListComp elt [⟨tg, iter, [c], 0⟩] scope pos) (lcIT (own.map (·.2)) it as ti fe) (.nw (.li .fz)) := by
  obtain ⟨wi, pi, qi⟩ := hi.ex
  refine ⟨_, pe_lc (g := tgcan X.K Γ as ix) (tt := ttecan X.K xc2 (fun _ _ _ _ => False) Γ ti) (te := tecan X.K xc2 (fun _ _ _ _ => False) Γ fe ke) hc hN pi ok (fun s H C cl fp => (hg s H C cl fp).can) (fun s H C cl fp => pts_one (ht s H C cl fp).can) (fun s H C cl fp => (he s H C cl fp).can) hs, fun σ H Q env fp Z r env' E hf hQ => ?_⟩
  obtain ⟨xs, hx, hf⟩ := Option.bind_eq_some_iff.mp hf
  obtain ⟨⟨ys, envF⟩, hy, hf⟩ := Option.bind_eq_some_iff.mp hf
  obtain ⟨v0, hv0, z⟩ := Option.map_eq_some_iff.mp hf
  cases z
  unfold lstD at hv0
  split at hv0
  · rename_i hlen
    cases hv0
    have hlen : ys.length ≤ sizeLine := hlen
    refine qi σ H _ env fp Z xs E hx fun J H1 G1 G0 s1 src sG1 sG0 hG D hD => ?_
    have hG := hG rfl
    subst hG
    have E1 := E.same s1
    have hDO := E1.fresh hD
    have hD0 : H D = none := by
      cases q : H D with
      | none => rfl
      | some o => rw [s1 D o q] at hD; cases hD
    have nG : ∀ b o, G1 b = some o → b ≠ D := fun b o h z => by subst z; have := sG1 b o h; rw [hD] at this; cases this
    refine ⟨fun i m H' => m = xs.length - i ∧ i ≤ xs.length ∧ ∃ e1 f1 vs acc rest, H' D = some (.lst vs) ∧ Reps X.K (hid (f1 ++ (D :: Z)) H') vs acc ∧ EOk X.K Γ e1 σ H' f1 (D :: Z) ∧ Ext H fp H' f1 ∧ Sub G1 (hid (f1 ++ (D :: Z)) H') ∧ lcITL (own.map (·.2)) as ti fe e1 (xs.drop i) = some (rest, envF) ∧ acc ++ rest = ys,
      ⟨xs.length, rfl, Nat.zero_le _, env, fp, [], [], ys, upd_same, .nil, ?_, (Ext.same s1).updF hD0, ?_, by rw [List.drop_zero]; exact hy, rfl⟩, ?_⟩
    · exact E1.hide (Y := [D]) (H' := upd H1 D (.lst [])) (Sub.upd hD) fun b hb => by
        have e : b = D := by simpa using hb
        subst e
        exact ⟨hD, _, upd_same, nt_lst _⟩
    · intro b o h
      have nd := nG b o h
      obtain ⟨h1, h2⟩ := hid_some (sG0 b o h)
      rw [hid_of, upd_ne nd]
      · exact h2
      · intro z
        rcases List.mem_append.mp z with z | z
        · exact h1 (List.mem_append_left _ z)
        · rcases List.mem_cons.mp z with z | z
          · exact nd z
          · exact h1 (List.mem_append_right _ z)
    · rintro i m H' ⟨rfl, hi, e1, f1, vs, acc, rest, hDv, hr, E2, x2, sg, hl, ha⟩
      by_cases hlt : i < xs.length
      · have hd : xs.drop i = xs[i] :: xs.drop (i + 1) := List.drop_eq_getElem_cons hlt
        rw [hd] at hl
        obtain ⟨e2, he2, hl⟩ := Option.bind_eq_some_iff.mp (show (as xs[i] (wipeE (own.map (·.2)) e1)).bind _ = some (rest, envF) from hl)
        have hdi : xs[i]? = some xs[i] := List.getElem?_eq_getElem hlt
        obtain ⟨j1, y1⟩ := src.go i H' (f1 ++ (D :: Z)) (sg.trans hid_sub) sg (fun b hb => let ⟨o, h, _⟩ := E2.ok b hb; ⟨o, h⟩) _ hdi
        refine .inr ⟨j1, fun H'' => ∃ e1 f1 vs acc rest, H'' D = some (.lst vs) ∧ Reps X.K (hid (f1 ++ (D :: Z)) H'') vs acc ∧ EOk X.K Γ e1 σ H'' f1 (D :: Z) ∧ Ext H fp H'' f1 ∧ Sub G1 (hid (f1 ++ (D :: Z)) H'') ∧ lcITL (own.map (·.2)) as ti fe e1 (xs.drop (i + 1)) = some (rest, envF) ∧ acc ++ rest = ys,
          fun H'' ⟨e1, f1, v1, a1, r1, z⟩ => ⟨xs.length - (i + 1), by omega, rfl, hlt, e1, f1, v1, a1, r1, z⟩, fun x H2 hyl => ?_⟩
        obtain ⟨s2, rx⟩ := y1 x H2 hyl
        have E3 := E2.same s2
        have E4 := E3.wipe (own := own.map (·.2)) hΓ
        have ww : ∀ (l m : List Nat) (σ : L2.St), (∀ i ∈ m, i ∈ l) → L2.wipe (L2.wipe σ m) l = L2.wipe σ l := fun l m => by
          induction m with
          | nil => intro σ _; rfl
          | cons v m ih =>
            intro σ h
            show L2.wipe ((L2.wipe σ m).set v none) l = _
            rw [wipe_set (h v (by simp)), ih σ fun i hi => h i (by simp [hi])]
        have stp : ∃ rb e3, ti e2 = some (rb, e3) := by
          split at hl
          · rename_i h; exact ⟨_, _, h⟩
          · rename_i h; exact ⟨_, _, h⟩
          · cases hl
        obtain ⟨rb, e3, hti⟩ := stp
        rw [hti] at hl
        refine ⟨_, _, f1, D :: Z, e2, E4, rx, he2, fun σ2 E5 w2 => ⟨?_, e2, f1, D :: Z, rb, e3, E5, hti, fun H3 f3 E6 x6 => ?_⟩⟩
        · have := w2 (own.map (·.2)) hix
          rw [this]
          exact ww _ _ _ fun _ h => h
        · have hw2 : L2.wipe σ2 (own.map (·.2)) = L2.wipe σ (own.map (·.2)) := by
            have := w2 (own.map (·.2)) hix
            rw [this]
            exact ww _ _ σ fun _ h => h
          have dD : H2 D = some (.lst vs) := s2 D _ hDv
          have dF : D ∉ f1 := fun z => E5.dj D z (by simp)
          have d3 : H3 D = some (.lst vs) := x6.keep D _ dD dF
          have r3 : Reps X.K (hid (f3 ++ (D :: Z)) H3) vs acc := hr.mono ((hid_mono s2).trans x6.hid)
          have g3 : Sub G1 (hid (f3 ++ (D :: Z)) H3) := (sg.trans (hid_mono s2)).trans x6.hid
          have x3 : Ext H fp H3 f3 := (x2.trans (Ext.same s2)).trans x6
          cases rb with
          | ex cc dd => cases hl
          | ok b =>
            cases b with
            | false =>
              refine iteF ?_
              exact ⟨wipeE (own.map (·.2)) e3, f3, vs, acc, rest, d3, r3, E6.unw hΓ hw2, x3, g3, hl, ha⟩
            | true =>
              refine iteT ?_
              simp only at hl
              split at hl
              · rename_i y e4 hfe
                obtain ⟨⟨rs, eF⟩, hrs, e⟩ := Option.map_eq_some_iff.mp hl
                obtain ⟨er, eE⟩ := Prod.mk.inj e
                subst eE
                refine ⟨e3, f3, D :: Z, .ok y, e4, E6, hfe, fun H4 f4 E7 x7 v hv => ?_⟩
                have dF3 : D ∉ f3 := fun z => E6.dj D z (by simp)
                have d4 : H4 D = some (.lst vs) := x7.keep D _ d3 dF3
                have la : acc.length + 1 + rs.length = ys.length := by
                  rw [← ha, ← er]
                  simp
                  omega
                refine ⟨vs, d4, by rw [r3.length]; omega, wipeE (own.map (·.2)) e4, f4, vs ++ [v], acc ++ [y], rs, upd_same, ?_, (E7.unw hΓ hw2).hset (by simp) (nt_lst _), (x3.trans x7).updF hD0, ?_, hrs, by rw [List.append_assoc, ← ha, ← er]; rfl⟩
                · rw [hid_updin (by simp)]
                  exact (r3.mono x7.hid).append (.cons (hv.toU ck) .nil)
                · rw [hid_updin (by simp)]
                  exact g3.trans x7.hid
              · cases hl
      · have e : i = xs.length := by omega
        subst e
        rw [List.drop_length] at hl
        cases hl
        rw [List.append_nil] at ha
        subst ha
        refine .inl ⟨src.stop H' (sg.trans hid_sub), hQ H' f1 (E2.un (Y := [D])) x2 _ ⟨[D], fun b hb => ?_, by simp, .li (fp := []) hDv (Trs.ofFz (hr.mono (hid_less fun b hb => ?_))), E2⟩⟩
        · have e : b = D := by simpa using hb
          subst e
          refine ⟨.inr hD0, fun z => ?_⟩
          rcases List.mem_append.mp z with z | z
          · exact E2.dj b z (by simp)
          · exact hDO (List.mem_append_right _ z)
        · rcases List.mem_append.mp hb with z | z
          · exact List.mem_append_right _ (by have e : b = D := by simpa using z
                                              subst e; simp)
          · rcases List.mem_append.mp z with z | z
            · exact List.mem_append_left _ z
            · exact List.mem_append_right _ (by simp [z])
  · cases hv0
end
end Py

set_option Elab.async false
set_option linter.all false
set_option maxRecDepth 100000
set_option maxHeartbeats 4000000
/-! Own layer: list.insert, list.remove, sorted of ints, reversed. -/
namespace Py
open PySem PySem.Spec PyProof.Rows L2
/-- p.insert(i, e), i not below 0 -/
def rInsert : V → List V → Hp → VK → Prop := fun x vs H Q => ∃ (l : Addr) (xs : List V) (i : Int) (y : V), x = .ref l ∧ vs = [.int i, y] ∧ H l = some (.lst xs) ∧ xs.length < sizeLine ∧ 0 ≤ i ∧ i < 2 ^ 63 ∧
    Q .non (upd H l (.lst (xs.take i.toNat ++ [y] ++ xs.drop i.toNat)))
def inD2 (j d : D) : D → Option D
  | .lst xs => match j with
    | .int i => if 0 ≤ i ∧ i.natAbs < 4611686018427387904 ∧ xs.length < sizeLine then some (.lst (xs.take i.toNat ++ [d] ++ xs.drop i.toNat)) else none
    | _ => none
  | _ => none
def rmD2 (d : D) : D → Option D
  | .lst xs => match d with
    | .int k => (ints? xs).bind fun ns => if k ∈ ns then some (.lst ((ns.erase k).map .int)) else none
    | _ => none
  | _ => none
theorem Reps.intsV {K : PySem.W.Frag} {G : Hp} : ∀ {vs : List V} {ns : List Int}, Reps K G vs (ns.map D.int) → vs = ns.map V.int
  | [], [], .nil => rfl
  | _ :: _, n :: ns, .cons h r => by
    cases h
    rw [Reps.intsV r]
    rfl
section
variable {X : Cx} {xc : Nat → Addr} {W : WX} {np : Nat} {Γ : List Sh} {rk : Kd} {a b e i tg iter : Expr} {s : Sh} {g fa fi f : En → Option D} {pt : D → En → Option En} {ka ki k : Kd} {pos p2 p3 p4 : Pos}
theorem qp_insert (h : PL X Γ a (.li .fz) g pt) (hi : SP X Γ i fi ki) (he : SP X Γ e fa .u)
    (hsw : swapsWith (.Call (.Attribute a "insert" p3) [i, e] [] p4) none pos.line X.env = pure false := by rfl) (hsi : starEach [i, e] X.env = (false, eval i X.env) :: starEach [e] X.env := by rfl) (hse : starEach [e] X.env = (false, eval e X.env) :: starEach [] X.env := by rfl)
    (mk : ∀ (to : TE) (t : TA), PE X a to → PA X [i, e] t → PE X (.Call (.Attribute a "insert" p3) [i, e] [] p4) (tBM X.K "list" rInsert to t) := by intro to t ho ha; exact L2.pe_bm PySem.F.plainAttrs_list PySem.F.slot_list_insert PySem.F.type_list_insert L2.mt_insert ho ha) :
    SS X xc W np Γ rk (.Expr (.Call (.Attribute a "insert" p3) [i, e] [] p4) pos) (qPl g (fun env l => (fi env).bind fun j => (fa env).bind fun d => inD2 j d l) pt) := by
  obtain ⟨t, p, q⟩ := h.ex
  obtain ⟨t1, p1, q1⟩ := hi.ex
  obtain ⟨t2, p2, q2⟩ := he.ex
  refine ⟨_, ps_expr (mk _ _ p (pa_cons p1 (pa_cons p2 pa_nil hse) hsi)) hsw, fun D σ H env fp Z fl env' E hf hQ => ?_⟩
  obtain ⟨rfl, l, l', hl, ho, hp⟩ := qPl_ok hf
  obtain ⟨j, hj, ho⟩ := Option.bind_eq_some_iff.mp ho
  obtain ⟨d, hd, ho⟩ := Option.bind_eq_some_iff.mp ho
  refine q σ H _ env fp Z l E hl fun v H1 s1 A => ?_
  obtain ⟨a1, vs1, ds1, rfl, rfl, ha1, _⟩ := A.lset
  refine ⟨.inl ⟨rfl, vs1, .inl (.inl ha1)⟩, q1 σ H1 _ env fp Z j (E.same s1) hj fun u H2 s2 hu => q2 σ H2 _ env fp Z d (E.same (s1.trans s2)) hd fun w H3 s3 hw => ?_⟩
  obtain ⟨a2, vs, ds, e1, e2, ha, rr, cont⟩ := (A.mono (s2.trans s3)).lset
  cases e1
  cases e2
  cases j with
  | int k =>
    have z := hu.rep
    cases z
    simp only [inD2] at ho
    split at ho
    · rename_i hc
      cases ho
      obtain ⟨fp', E2, x2⟩ := cont (vs.take k.toNat ++ [w] ++ vs.drop k.toNat) (ds1.take k.toNat ++ [d] ++ ds1.drop k.toNat) env' (((rr.take _).append (.cons hw .nil)).append (rr.drop _)) hp
      exact ⟨_, _, _, _, rfl, rfl, ha, by rw [rr.length]; exact hc.2.2, hc.1, by omega, hQ σ _ fp' E2 ((Ext.same ((s1.trans s2).trans s3)).trans x2) Prot.refl⟩
    · cases ho
  | _ => cases ho
/-- p.remove(k), p a list of ints -/
theorem qp_remove (hc : X.calm = true) (tk : Takes X W) (h : PL X Γ a (.li .fz) g pt) (he : SP X Γ e fa .u)
    (hsw : swapsWith (.Call (.Attribute a "remove" p3) [e] [] p4) none pos.line X.env = pure false := by rfl)
    (mk : ∀ (to te : TE), PE X a to → PE X e te → PE X (.Call (.Attribute a "remove" p3) [e] [] p4) (tRemX X.K W to te) := by intro to te ho he; exact L2.pe_remX (by assumption) (by assumption) ho he) :
    SS X xc W np Γ rk (.Expr (.Call (.Attribute a "remove" p3) [e] [] p4) pos) (qPl g (fun env l => (fa env).bind fun d => rmD2 d l) pt) := by
  obtain ⟨t, p, q⟩ := h.ex
  obtain ⟨t2, p2, q2⟩ := he.ex
  refine ⟨_, ps_expr (mk _ _ p p2) hsw, fun D σ H env fp Z fl env' E hf hQ => ?_⟩
  obtain ⟨rfl, l, l', hl, ho, hp⟩ := qPl_ok hf
  obtain ⟨d, hd, ho⟩ := Option.bind_eq_some_iff.mp ho
  refine q σ H _ env fp Z l E hl fun v H1 s1 A => ?_
  obtain ⟨a1, vs1, ds1, rfl, rfl, ha1, _⟩ := A.lset
  refine ⟨.inl ⟨rfl, vs1, .inl (.inl ha1)⟩, q2 σ H1 _ env fp Z d (E.same s1) hd fun w H2 s2 hw => ?_⟩
  obtain ⟨a2, vs, ds, e1, e2, ha, rr, cont⟩ := (A.mono s2).lset
  cases e1
  cases e2
  cases d with
  | int k =>
    cases hw
    obtain ⟨ns, hn, ho2⟩ := Option.bind_eq_some_iff.mp (show (ints? ds1).bind (fun ns => if k ∈ ns then some (Py.D.lst ((ns.erase k).map .int)) else none) = some l' from ho)
    have e3 := ints?_ok hn
    subst e3
    have e4 := rr.intsV
    subst e4
    clear ho
    by_cases hk : k ∈ ns
    · rw [if_pos hk] at ho2
      cases ho2
      refine ⟨_, ns, k, rfl, rfl, ha, fun _ => ?_, fun z => absurd hk z⟩
      obtain ⟨fp', E2, x2⟩ := cont ((ns.erase k).map V.int) ((ns.erase k).map Py.D.int) env' Reps.ofInts hp
      exact hQ σ _ fp' E2 ((Ext.same (s1.trans s2)).trans x2) Prot.refl
    · rw [if_neg hk] at ho2
      cases ho2
  | _ => cases ho
end
/-! ### sorted of ints -/
def insI (x : Int) : List Int → List Int
  | [] => [x]
  | y :: ys => if x ≤ y then x :: y :: ys else y :: insI x ys
def isort : List Int → List Int
  | [] => []
  | x :: xs => insI x (isort xs)
theorem insI_perm (x : Int) : ∀ ys : List Int, (insI x ys).Perm (x :: ys)
  | [] => .refl _
  | y :: ys => by
    unfold insI
    split
    · exact .refl _
    · exact ((insI_perm x ys).cons y).trans (.swap ..)
theorem isort_perm : ∀ xs : List Int, (isort xs).Perm xs
  | [] => .nil
  | x :: xs => (insI_perm x (isort xs)).trans ((isort_perm xs).cons x)
theorem insI_pw (x : Int) : ∀ {ys : List Int}, ys.Pairwise (· ≤ ·) → (insI x ys).Pairwise (· ≤ ·)
  | [], _ => by simp [insI]
  | y :: ys, h => by
    obtain ⟨h1, h2⟩ := List.pairwise_cons.mp h
    unfold insI
    split
    · rename_i c
      exact List.pairwise_cons.mpr ⟨fun z hz => by
        rcases List.mem_cons.mp hz with rfl | hz
        · exact c
        · exact Int.le_trans c (h1 z hz), h⟩
    · rename_i c
      refine List.pairwise_cons.mpr ⟨fun z hz => ?_, insI_pw x h2⟩
      rcases List.mem_cons.mp ((insI_perm x ys).mem_iff.mp hz) with rfl | hz
      · omega
      · exact h1 z hz
theorem isort_pw : ∀ xs : List Int, (isort xs).Pairwise (· ≤ ·)
  | [] => .nil
  | x :: xs => insI_pw x (isort_pw xs)
theorem srt_unique : ∀ {xs ys : List Int}, xs.Pairwise (· ≤ ·) → ys.Pairwise (· ≤ ·) → xs.Perm ys → xs = ys
  | [], ys, _, _, h => (List.nil_perm.mp h).symm ▸ rfl
  | x :: xs, [], _, _, h => absurd h.length_eq (by simp)
  | x :: xs, y :: ys, h1, h2, h => by
    obtain ⟨a1, a2⟩ := List.pairwise_cons.mp h1
    obtain ⟨b1, b2⟩ := List.pairwise_cons.mp h2
    have e : x = y := by
      have q1 : y ≤ x := by
        rcases List.mem_cons.mp (h.mem_iff.mp (List.mem_cons_self)) with z | z
        · omega
        · exact b1 x z
      have q2 : x ≤ y := by
        rcases List.mem_cons.mp (h.mem_iff.mpr (List.mem_cons_self)) with z | z
        · omega
        · exact a1 y z
      omega
    subst e
    rw [srt_unique a2 b2 (List.Perm.cons_inv h)]
def sorD : List D → Option D
  | [.lst ds] => (ints? ds).map fun ns => .lst ((isort ns).map .int)
  | _ => none
section
variable {X : Cx} {xc : Nat → Addr} {W : WX} {np : Nat} {Γ : List Sh} {a e tg : Expr} {fs : En → Option (List D)} {f : En → Option D} {ks : List Kd} {k : Kd} {pos p2 : Pos}
theorem s_sorted (hm : X.mg "sorted" = none) (ha : SP X Γ e f k) (hgl : Gl X "sorted" := by rfl) (he : starEach [e] X.env = (false, eval e X.env) :: starEach [] X.env := by rfl) :
    SP X Γ (.Call (.Name "sorted" p2) [e] [] pos) (bA (Py.a1 f a0) sorD) (.nw (.li .fz)) := by
  obtain ⟨t, p, q⟩ := ha.ex
  refine ⟨_, pe_callB cr_sortedI hgl hm (by decide +kernel) (pa_cons p pa_nil he) (by decide) (by decide) he (by rfl), fun σ H Q env fp Z d E hf hQ => ?_⟩
  obtain ⟨xs, hx, hd⟩ := Option.bind_eq_some_iff.mp hf
  obtain ⟨y, hy, hx⟩ := Option.bind_eq_some_iff.mp hx
  cases hx
  refine q σ H _ env fp Z y E hy fun v H1 s1 h1 => ?_
  cases y with
  | lst xs =>
    obtain ⟨ns, hn, z⟩ := Option.map_eq_some_iff.mp (show (ints? xs).map (fun ns => Py.D.lst ((isort ns).map .int)) = some d from hd)
    cases z
    have e3 := ints?_ok hn
    subst e3
    obtain ⟨p1, us, rfl, l1, r1⟩ := h1.lst
    have e4 := r1.intsV
    subst e4
    refine ⟨_, ns, rfl, l1, fun ns' p hp1 hp2 hp => ?_⟩
    have e5 := srt_unique hp2 (isort_pw ns) (hp1.trans (isort_perm ns).symm)
    subst e5
    exact hQ _ _ (s1.trans (Sub.upd hp)) (new_list (c := true) E s1 hp Reps.ofInts)
  | _ => cases hd
end
end Py

set_option Elab.async false
set_option linter.all false
set_option maxRecDepth 100000
set_option maxHeartbeats 4000000
/-! Own layer: reversed as what is walked, a list turned about by a slice, tuple(range(n)). -/
namespace Py
open PySem PySem.Spec PyProof.Rows L2 RT
theorem rev_at {α : Type} {xs : List α} {i : Nat} {x : α} (h : xs.reverse[i]? = some x) : i < xs.length ∧ xs[xs.length - 1 - i]? = some x := by
  have hi := (List.getElem?_eq_some_iff.mp h).1
  rw [List.length_reverse] at hi
  refine ⟨hi, ?_⟩
  rw [List.getElem?_reverse hi] at h
  exact h
theorem Reps.reverse {K : PySem.W.Frag} {G : Hp} : ∀ {vs : List V} {ds : List D}, Reps K G vs ds → Reps K G vs.reverse ds.reverse
  | _, _, .nil => .nil
  | _, _, .cons h r => by
    rw [List.reverse_cons, List.reverse_cons]
    exact r.reverse.append (.cons h .nil)
theorem src_rev {K : PySem.W.Frag} {a : Addr} {vs : List V} {xs : List D} {G1 G0 : Hp} (h : SqL K G1 a vs) (r : Reps K G0 vs xs) : Src K (Itv K a vs.length) xs.reverse G1 G0 where
  go := fun i H O s1 s0 _ d hd => by
    obtain ⟨hi, hx⟩ := rev_at hd
    obtain ⟨v, hv, q⟩ := r.get hx
    have el := r.length
    rw [← el] at hv hi
    refine ⟨⟨hi, _, v, s1.sqL h, hv⟩, fun x H' y => ?_⟩
    obtain ⟨e, y⟩ := y
    subst e
    have := y _ (s1.sqL h)
    rw [hv] at this; cases this
    exact ⟨Sub.refl, q.mono s0⟩
  stop := fun H s1 => by
    show vs.length ≤ xs.reverse.length
    rw [List.length_reverse, r.length]
    exact Nat.le_refl _
def asR : D → Option (List D)
  | .lst xs => some xs.reverse
  | _ => none
section
variable {X : Cx} {xc : Nat → Addr} {W : WX} {np : Nat} {Γ : List Sh} {a b e st tg : Expr} {f fa : En → Option D} {k ka : Kd} {pos p p2 p3 p4 : Pos}
theorem i_rev (hm : X.mg "reversed" = none) (he : SP X Γ e f k) (ck : k.cu = true := by rfl) (hg : Gl X "reversed" := by rfl) (hs : starEach [e] X.env = (false, eval e X.env) :: starEach [] X.env := by rfl) : SPI X Γ tg (.Call (.Name "reversed" p) [e] [] pos) (itD f asR) false := by
  obtain ⟨t, pp, q⟩ := he.ex
  refine ⟨_, pi_revA hg hm pp hs, fun σ H R env fp Z xs E hf hR => ?_⟩
  obtain ⟨d, hd, hx⟩ := Option.bind_eq_some_iff.mp hf
  refine q σ H _ env fp Z d E hd fun v H1 s1 h1 => ?_
  have h2 := h1.toU ck
  cases d with
  | lst ys =>
    cases hx
    cases h2 with
    | lst l r => exact ⟨_, _, rfl, .inl ⟨hid_sub.sqL l, hR _ H1 _ _ s1 (src_rev l r) hid_sub Sub.refl fun _ => rfl⟩⟩
  | _ => cases hx
theorem i_revV (hm : X.mg "reversed" = none) (he : SP X Γ e f (.vw (.li .fz))) (hg : Gl X "reversed" := by rfl) (hs : starEach [e] X.env = (false, eval e X.env) :: starEach [] X.env := by rfl) : SPI X Γ tg (.Call (.Name "reversed" p) [e] [] pos) (itD f asR) true := by
  obtain ⟨t, pp, q⟩ := he.ex
  refine ⟨_, pi_revA hg hm pp hs, fun σ H R env fp Z xs E hf hR => ?_⟩
  obtain ⟨d, hd, hx⟩ := Option.bind_eq_some_iff.mp hf
  refine q σ H _ env fp Z d E hd fun v H1 s1 h1 => ?_
  obtain ⟨fv, i1, n1, t1⟩ := h1
  obtain ⟨a, vs, ds, rfl, rfl, rfl, ha, r⟩ := t1.liFz
  cases hx
  exact ⟨_, _, rfl, .inl ⟨SqL.of ha, hR _ H1 _ _ s1 (src_rev (G1 := H1) (SqL.of ha) r) Sub.refl Sub.refl fun z => nomatch z⟩⟩
/-- xs[::-1] -/
def rRevL (K : PySem.W.Frag) : V → Hp → VK → Prop := fun x H Q => ∃ a xs, x = .ref a ∧ SqL K H a xs ∧ ∀ p, H p = none → Q (.ref p) (upd H p (.lst xs.reverse))
theorem slicePick_rev (its : List Value) : slicePick its.toArray none none (some (-1)) = its.reverse.toArray := by
  unfold slicePick
  have hb : sliceBounds none none (some (-1)) its.toArray.size = ((its.length : Int) - 1, -1, -1) := by
    rw [List.size_toArray]
    rfl
  rw [hb]
  have hr : sliceRange ((its.length : Int) - 1) (-1) (-1) = (List.range its.length).map fun k => its.length - 1 - k := by
    unfold sliceRange
    simp only
    rw [if_neg (by decide)]
    have hc : (if (its.length : Int) - 1 > -1 then ((its.length : Int) - 1 - -1 - -1 - 1) / (- -1) else 0).toNat = its.length := by
      by_cases q : its.length = 0
      · rw [if_neg (by omega), q]; rfl
      · rw [if_pos (by omega)]
        have e : ((its.length : Int) - 1 - -1 - -1 - 1) / (- -1) = (its.length : Int) := by
          rw [show (- -1 : Int) = 1 from rfl, Int.ediv_one]
          omega
        rw [e, Int.toNat_natCast]
    rw [hc]
    refine List.map_congr_left fun k hk => ?_
    have := List.mem_range.mp hk
    omega
  rw [hr]
  congr 1
  have key : ∀ (n : Nat), n ≤ its.length → ((List.range n).map fun k => its.length - 1 - k).filterMap (its.toArray[·]?) = its.reverse.take n := fun n => by
    induction n with
    | zero => intro _; rfl
    | succ n ih =>
      intro h
      rw [List.range_succ, List.map_append, List.filterMap_append, ih (by omega), List.take_add_one]
      congr 1
      show List.filterMap _ [its.length - 1 - n] = _
      rw [List.getElem?_reverse (by omega)]
      have e : its.toArray[its.length - 1 - n]? = its[its.length - 1 - n]? := by simp
      cases q : its[its.length - 1 - n]? with
      | none => simp [List.filterMap, q]
      | some v => simp [List.filterMap, q]
  rw [key its.length (Nat.le_refl _), List.take_of_length_le (by simp)]
theorem pe_revSl {te ts : TE} (he : PE X e te) (hs : PE X st ts) : PE X (.Subscript e (.Slice none none (some st) p2) pos) (fun σ H Q => te σ H fun x H1 => ts σ H1 fun j H2 => j = .int (-1) ∧ rRevL X.K x H2 Q) := by
  refine ⟨fun pins s σ H Q I h => ?_⟩
  refine Subscript_ (thn (he.run pins s σ H _ I h) fun v s1 ⟨x, H1, I1, r1, q1⟩ => ?_)
  refine wpAny_Slice ?_
  rw [evalPart_none]
  refine wpAny_pure ?_
  refine wpAny_pure ?_
  rw [evalPart_some]
  refine thn (hs.run pins s1 σ H1 _ I1 q1) fun vs s3 ⟨y, H3, I3, r3, q3⟩ => ?_
  obtain ⟨e3, q3⟩ := q3
  subst e3
  obtain ⟨t3, rfl⟩ := r3
  obtain ⟨a, xs, rfl, hx, q⟩ := q3
  have I4 : Inv X pins σ H3 { s3 with heap := s3.heap.push { cls := .type "slice", data := .fields #[.none, .none, .int (-1) t3] } } := I3.kept (t' := s3.toks) fun b ob q => Heap.get?_push_of_some _ q
  cases r1
  obtain ⟨its, r, ht, hz⟩ := I4.list hx
  have hlen := r.length
  show wpAny (model X.prog X.w) X.A (subscriptTail e (.Slice none none (some st) p2) (.ref a) (.ref s3.heap.objs.size)) (EP X pins σ Q) X.xe { s3 with heap := s3.heap.push { cls := .type "slice", data := .fields #[.none, .none, .int (-1) t3] } }
  refine tail_any (ops := [.ref a, .ref s3.heap.objs.size]) ht.isList.typeIs slot_list_getitem.lookup ?_ (by with_unfolding_all rfl)
  refine wpAny_getItem_list_slice ht.isList (Heap.IsSliceOf.new ..) .none .none (.int (-1) t3) (by decide) ?_ (by rw [List.size_toArray] <;> omega)
  rw [slicePick_rev]
  refine ⟨.ref _, _, I4.laid (t' := s3.toks) (o := .lst xs.reverse) (fun b ob q => Heap.get?_push_of_some _ q) (Nat.le_refl _) ?_, rfl, q _ (I4.hok.fresh (Nat.le_refl _))⟩
  exact ⟨by rw [List.length_reverse]; exact hz, _, 0, r.reverse, Heap.get?_push_size _ rfl⟩
def rvL (x j : D) : Option D := match x, j with
  | .lst xs, .int k => if k = -1 then some (.lst xs.reverse) else none
  | _, _ => none
theorem s_revSl {fs : En → Option D} {ks : Kd} (ha : SP X Γ a fa ka) (hs : SP X Γ st fs ks) : SP X Γ (.Subscript a (.Slice none none (some st) p2) pos) (b2 fa fs rvL) (Kd.nl ka.clean) := by
  obtain ⟨ta, pa, qa⟩ := ha.ex
  obtain ⟨tb, pb, qb⟩ := hs.ex
  refine ⟨_, pe_revSl pa pb, fun σ H Q env fp Z d E hf hQ => ?_⟩
  obtain ⟨x, y, hx, hy, hd⟩ := bind2 hf
  refine two qa qb E hx hy fun v w H' s h1 h2 => ?_
  cases x with
  | lst xs =>
    cases y with
    | int k =>
      simp only [rvL] at hd
      split at hd
      · rename_i c
        subst c
        cases hd
        obtain ⟨p1, us, rfl, l1, r1⟩ := h1.lst
        have z := h2.rep
        cases z
        exact ⟨rfl, _, _, rfl, l1, fun p hp => hQ _ _ (s.trans (Sub.upd hp)) (new_list E s hp r1.reverse)⟩
      · cases hd
    | _ => cases hd
  | _ => cases hd
/-- tuple(range(n)) -/
def tr1 : List D → Option D
  | [.int j] => if 0 ≤ j ∧ j.natAbs ≤ 1000000 then some (.tup (rngL 0 j.toNat)) else none
  | _ => none
theorem s_tupRg (hc : X.calm = true) (hm : X.mg "tuple" = none) (hm2 : X.mg "range" = none) (ha : SP X Γ a fa ka) (hg : Gl X "tuple" := by rfl) (hg2 : Gl X "range" := by rfl) (he : starEach [a] X.env = (false, eval a X.env) :: starEach [] X.env := by rfl)
    (he2 : starEach [.Call (.Name "range" p2) [a] [] p3] X.env = (false, eval (.Call (.Name "range" p2) [a] [] p3) X.env) :: starEach [] X.env := by rfl) :
    SP X Γ (.Call (.Name "tuple" p4) [.Call (.Name "range" p2) [a] [] p3] [] pos) (bA (Py.a1 fa a0) tr1) .u := by
  obtain ⟨ta, pa, qa⟩ := ha.ex
  refine ⟨_, pe_tupRg hc hg hm (prg_1 hg2 hm2 pa he) he2, fun σ H Q env fp Z d E hf hQ => ?_⟩
  obtain ⟨xs, hx, hd⟩ := Option.bind_eq_some_iff.mp hf
  obtain ⟨y, hy, hx⟩ := Option.bind_eq_some_iff.mp hx
  cases hx
  refine qa σ H _ env fp Z y E hy fun v H1 s1 h1 => ?_
  cases y with
  | int j =>
    simp only [tr1] at hd
    split at hd
    · rename_i c
      cases hd
      cases h1.rep
      refine ⟨j, rfl, ⟨by omega, by omega, by omega, by omega, by omega⟩, fun q hq => hQ _ _ (s1.trans (Sub.upd hq)) (new_tup (c := true) E s1 hq ?_)⟩
      have z : Reps X.K (gG true fp Z H1) (rgV 0 j) (rngL 0 (j - 0).toNat) := rgV_reps
      rw [Int.sub_zero] at z
      exact z
    · cases hd
  | _ => cases hd
end
end Py

set_option Elab.async false
set_option linter.all false
set_option maxRecDepth 100000
set_option maxHeartbeats 4000000
/-! Own layer: list comprehensions whose items are new own trees. -/
namespace Py
open PySem PySem.Spec PyProof.Rows L2
theorem hid_mem {O O' : List Addr} {H : Hp} (h : ∀ b, b ∈ O ↔ b ∈ O') : hid O H = hid O' H := by
  funext b
  unfold hid
  by_cases c : b ∈ O
  · rw [if_pos c, if_pos ((h b).mp c)]
  · rw [if_neg c, if_neg fun z => c ((h b).mpr z)]
theorem EOk.zs {K : PySem.W.Frag} {Γ : List Sh} {env : En} {σ : L2.St} {H : Hp} {fp Z Z' : List Addr} (E : EOk K Γ env σ H fp Z) (h : ∀ b, b ∈ Z ↔ b ∈ Z') : EOk K Γ env σ H fp Z' := by
  obtain ⟨⟨fq, t, n, i⟩, dj, ok⟩ := E
  have e : hid (fp ++ Z) H = hid (fp ++ Z') H := hid_mem fun b => by
    rw [List.mem_append, List.mem_append, h b]
  refine ⟨⟨fq, by rw [← e]; exact t, n, i⟩, fun b hb z => dj b hb ((h b).mpr z), fun b hb => ok b ?_⟩
  rcases List.mem_append.mp hb with z | z
  · exact List.mem_append_left _ z
  · exact List.mem_append_right _ ((h b).mpr z)
theorem Trs.snoc {K : PySem.W.Frag} {H G : Hp} {e : Sh} {v : V} {d : D} {fq : List Addr} (t : Tr K H G e v d fq) : ∀ {es : List Sh} {vs : List V} {ds : List D} {fp : List Addr}, Trs K H G es vs ds fp → Trs K H G (es ++ [e]) (vs ++ [v]) (ds ++ [d]) (fp ++ fq)
  | _, _, _, _, .nil => by
    have := Trs.cons t .nil
    simpa using this
  | _, _, _, _, .cons h r => by
    rw [List.append_assoc]
    exact .cons h (Trs.snoc t r)
section
variable {X : Cx} {xc : Nat → Addr} {W : WX} {np : Nat} {Γ : List Sh} {rk : Kd} {tg iter elt : Expr} {ifs : List Expr} {scope : Scope} {own : List (Str × Nat)} {pos p2 : Pos} {it : En → Option (List D)} {as : D → En → Option En} {tt : En → Option Bool} {fe : En → Option D} {ix : List Nat} {pu : Bool} {sh : Sh}
set_option maxHeartbeats 8000000 in
theorem lcO_sem {wi : TI} (hq : ∀ (σ : L2.St) (H : Hp) (R : It → Hp → Prop) (env : En) (fp Z : List Addr) (xs : List D), EOk X.K Γ env σ H fp Z → it env = some xs →
    (∀ J H' G1 G0, Sub H H' → Src X.K J xs G1 G0 → Sub G1 H' → Sub G0 (hid (fp ++ Z) H') → (pu = false → G1 = G0) → R J H') → wi σ H R) (hix : ∀ i ∈ ix, i ∈ own.map (·.2)) (hΓ : ∀ i ∈ own.map (·.2), ∃ s, Γ[i]? = some s)
    (σ : L2.St) (H : Hp) (Q : VK) (env : En) (fp Z : List Addr) (d : D) (E : EOk X.K Γ env σ H fp Z) (hf : lcF (own.map (·.2)) it as tt fe env = some d) (hQ : ∀ v H', Sub H H' → HK X.K (.nw (.li sh)) H fp Z H' v d → Q v H') :
    tLc wi (tgcan X.K Γ as ix) (ttcan X.K Γ tt) (tcan X.K Γ fe (.nw sh)) (own.map (·.2)) σ H Q := by
  obtain ⟨xs, hx, hf⟩ := Option.bind_eq_some_iff.mp hf
  obtain ⟨ys, hy, hf⟩ := Option.bind_eq_some_iff.mp hf
  unfold lstD at hf
  split at hf
  · rename_i hlen
    cases hf
    have hlen : ys.length ≤ sizeLine := hlen
    refine hq σ H _ env fp Z xs E hx fun J H1 G1 G0 s1 src sG1 sG0 _ D hD => ?_
    have E1 := E.same s1
    have hDO := E1.fresh hD
    have nG1 : ∀ b o, G1 b = some o → b ≠ D := fun b o h z => by subst z; have := sG1 b o h; rw [hD] at this; cases this
    have nG0 : ∀ b o, G0 b = some o → b ≠ D := fun b o h z => by subst z; have := hid_sub b o (sG0 b o h); rw [hD] at this; cases this
    let Inv (i : Nat) (H' : Hp) : Prop := ∃ vs acc rest fa, H' D = some (.lst vs) ∧ vs.length = acc.length ∧ Trs X.K H' (hid (fp ++ (D :: (fa ++ Z))) H') (List.replicate vs.length sh) vs acc fa ∧ EOk X.K Γ env σ H' fp (D :: (fa ++ Z)) ∧ (∀ b o, b ≠ D → H1 b = some o → H' b = some o) ∧ fa.Nodup ∧ (∀ b ∈ fa, H1 b = none ∧ b ≠ D ∧ b ∉ fp ++ Z) ∧ lcL as tt fe (wipeE (own.map (·.2)) env) (xs.drop i) = some rest ∧ acc ++ rest = ys
    refine ⟨fun i m H' => m = xs.length - i ∧ i ≤ xs.length ∧ Inv i H', ⟨xs.length, rfl, Nat.zero_le _, [], [], ys, [], upd_same, rfl, .nil, ?_, fun b o n h => by rw [upd_ne n]; exact h, by simp, by simp, by rw [List.drop_zero]; exact hy, rfl⟩, ?_⟩
    · exact E1.hide (Y := [D]) (H' := upd H1 D (.lst [])) (Sub.upd hD) fun b hb => by
        have e : b = D := by simpa using hb
        subst e
        exact ⟨hD, _, upd_same, nt_lst _⟩
    · rintro i m H' ⟨rfl, hi, vs, acc, rest, fa, hDv, hla, hr, E2, sb, fn1, fn2, hl, ha⟩
      have g1 : Sub G1 H' := fun b o h => sb b o (nG1 b o h) (sG1 b o h)
      have g0 : Sub G0 (hid (fp ++ (D :: (fa ++ Z))) H') := fun b o h => by
        have nd := nG0 b o h
        obtain ⟨h1, h2⟩ := hid_some (sG0 b o h)
        rw [hid_of]
        · exact sb b o nd h2
        · intro z
          rcases List.mem_append.mp z with z | z
          · exact h1 (List.mem_append_left _ z)
          · rcases List.mem_cons.mp z with z | z
            · exact nd z
            · rcases List.mem_append.mp z with z | z
              · rw [(fn2 b z).1] at h2; cases h2
              · exact h1 (List.mem_append_right _ z)
      by_cases hlt : i < xs.length
      · have hd : xs.drop i = xs[i] :: xs.drop (i + 1) := List.drop_eq_getElem_cons hlt
        rw [hd] at hl
        obtain ⟨e1, he1, hl⟩ := Option.bind_eq_some_iff.mp (show (as xs[i] _).bind _ = some rest from hl)
        obtain ⟨b, hb, hl⟩ := Option.bind_eq_some_iff.mp hl
        have hdi : xs[i]? = some xs[i] := List.getElem?_eq_getElem hlt
        obtain ⟨j1, y1⟩ := src.go i H' (fp ++ (D :: (fa ++ Z))) g1 g0 (fun b hb => let ⟨o, h, _⟩ := E2.ok b hb; ⟨o, h⟩) _ hdi
        refine .inr ⟨j1, fun H'' => Inv (i + 1) H'', fun H'' z => ⟨xs.length - (i + 1), by omega, rfl, hlt, z⟩, fun x H2 hyl => ?_⟩
        obtain ⟨s2, rx⟩ := y1 x H2 hyl
        have E3 := E2.same s2
        have E4 : EOk X.K Γ (wipeE (own.map (·.2)) env) (L2.wipe σ (own.map (·.2))) H2 fp (D :: (fa ++ Z)) := E3.wipe hΓ
        refine ⟨_, _, fp, D :: (fa ++ Z), e1, E4, rx, he1, fun σ2 E5 w2 => ⟨?_, e1, fp, D :: (fa ++ Z), b, E5, hb, fun H3 s3 => ?_⟩⟩
        · have := w2 (own.map (·.2)) hix
          rw [this]
          have ww : ∀ (l : List Nat) (σ : L2.St), L2.wipe (L2.wipe σ l) l = L2.wipe σ l := fun l => by
            have : ∀ (l m : List Nat) (σ : L2.St), (∀ i ∈ m, i ∈ l) → L2.wipe (L2.wipe σ m) l = L2.wipe σ l := fun l m => by
              induction m with
              | nil => intro σ _; rfl
              | cons v m ih =>
                intro σ h
                show L2.wipe ((L2.wipe σ m).set v none) l = _
                rw [wipe_set (h v (by simp)), ih σ fun i hi => h i (by simp [hi])]
            exact fun σ => this l l σ fun _ h => h
          exact ww _ _
        · have s23 := s2.trans s3
          have d3 : H3 D = some (.lst vs) := s23 D _ hDv
          have sb3 : ∀ b o, b ≠ D → H1 b = some o → H3 b = some o := fun b o n h => s23 b o (sb b o n h)
          have r3 : Trs X.K H3 (hid (fp ++ (D :: (fa ++ Z))) H3) (List.replicate vs.length sh) vs acc fa := hr.mono (hid_mono s23) fun b _ o e => s23 b o e
          cases b with
          | false =>
            rw [if_neg Bool.false_ne_true] at hl
            refine iteF ?_
            exact ⟨vs, acc, rest, fa, d3, hla, r3, E3.same s3, sb3, fn1, fn2, hl, ha⟩
          | true =>
            rw [if_pos rfl] at hl
            refine iteT ?_
            obtain ⟨y, hy', hl⟩ := Option.bind_eq_some_iff.mp hl
            obtain ⟨rs, hrs, e⟩ := Option.map_eq_some_iff.mp hl
            refine ⟨e1, fp, D :: (fa ++ Z), y, E5.same s3, hy', fun v H4 s4 hv => ?_⟩
            obtain ⟨fv, f1, f2, f3⟩ := hv
            have d4 : H4 D = some (.lst vs) := s4 D _ d3
            have la : acc.length + 1 + rs.length = ys.length := by
              rw [← ha, ← e]
              simp
              omega
            have fD : ∀ b ∈ fv, b ≠ D := fun b hb z => by
              have := (f1 b hb).1
              rw [z, d3] at this
              cases this
            have mem : ∀ b, b ∈ fp ++ (D :: ((fa ++ fv) ++ Z)) ↔ b ∈ fv ++ (fp ++ (D :: (fa ++ Z))) := fun b => by
              simp only [List.mem_append, List.mem_cons]
              constructor
              · rintro (h | h | (h | h) | h) <;> simp [h]
              · rintro (h | h | h | h | h) <;> simp [h]
            have DO : D ∈ fp ++ (D :: ((fa ++ fv) ++ Z)) := by simp
            have E6 : EOk X.K Γ env σ H4 fp (fv ++ (D :: (fa ++ Z))) := (E3.same s3).hide s4 fun b hb => ⟨(f1 b hb).1, f3.there b hb⟩
            have E7 : EOk X.K Γ env σ H4 fp (D :: ((fa ++ fv) ++ Z)) := E6.zs fun b => by
              simp only [List.mem_append, List.mem_cons]
              constructor
              · rintro (h | h | h | h) <;> simp [h]
              · rintro (h | (h | h) | h) <;> simp [h]
            refine ⟨vs, d4, by rw [hla]; omega, vs ++ [v], acc ++ [y], rs, fa ++ fv, upd_same, by simp [hla], ?_, E7.hset (by simp) (nt_lst _), fun b o n h => by rw [upd_ne n]; exact s4 b o (sb3 b o n h), ?_, ?_, hrs, by rw [List.append_assoc, ← ha, ← e]; rfl⟩
            · rw [hid_updin DO]
              have eR : List.replicate (vs ++ [v]).length sh = List.replicate vs.length sh ++ [sh] := by
                rw [List.length_append, List.length_singleton, List.replicate_succ']
              rw [eR]
              refine Trs.snoc ?_ ?_
              · rw [hid_mem mem]
                exact f3.mono (fun _ _ h => h) fun b hb o h => by rw [upd_ne (fD b hb)]; exact h
              · refine r3.mono (fun b o h => ?_) fun b hb o h => by rw [upd_ne (fn2 b hb).2.1]; exact s4 b o h
                obtain ⟨h1, h2⟩ := hid_some h
                rw [hid_of]
                · exact s4 b o h2
                · intro z
                  rcases List.mem_append.mp ((mem b).mp z) with z | z
                  · rw [(f1 b z).1] at h2; cases h2
                  · exact h1 z
            · refine List.nodup_append.mpr ⟨fn1, f2, fun x hx y hy z => ?_⟩
              subst z
              exact (f1 x hy).2 (by simp [hx])
            · intro b hb
              rcases List.mem_append.mp hb with z | z
              · exact fn2 b z
              · obtain ⟨q1, q2⟩ := f1 b z
                refine ⟨?_, fD b z, fun w => q2 ?_⟩
                · cases q : H1 b with
                  | none => rfl
                  | some o =>
                    have := sb3 b o (fD b z) q
                    rw [q1] at this
                    cases this
                · rcases List.mem_append.mp w with w | w
                  · exact List.mem_append_left _ w
                  · simp [w]
      · have e : i = xs.length := by omega
        subst e
        rw [List.drop_length] at hl
        cases hl
        rw [List.append_nil] at ha
        subst ha
        refine .inl ⟨src.stop H' g1, hQ _ H' (fun b o h => ?_) ⟨D :: fa, fun b hb => ?_, List.nodup_cons.mpr ⟨fun z => (fn2 D z).2.1 rfl, fn1⟩, .li hDv (hr.mono (hid_less fun b hb => ?_) fun _ _ _ h => h)⟩⟩
        · have h1 := s1 b o h
          exact sb b o (fun z => by subst z; rw [hD] at h1; cases h1) h1
        · have hH : ∀ b, H1 b = none → H b = none := fun b hb => by
            cases q : H b with
            | none => rfl
            | some o => have := s1 b o q; rw [hb] at this; cases this
          rcases List.mem_cons.mp hb with rfl | hb
          · exact ⟨hH _ hD, hDO⟩
          · exact ⟨hH _ (fn2 b hb).1, (fn2 b hb).2.2⟩
        · simp only [List.mem_append, List.mem_cons] at hb ⊢
          rcases hb with (h | h) | h | h
          · exact .inr (.inl h)
          · exact .inr (.inr (.inl h))
          · exact .inl h
          · exact .inr (.inr (.inr h))
  · cases hf
theorem s_lcO (hi : SPI X Γ tg iter it pu) (ok : BlkOk X.N X.env.scope scope own) (hg : BlkA X scope fun X => SG X 0 Γ tg as ix) (ht : BlkA X scope fun X => STl X Γ ifs tt) (he : BlkA X scope fun X => SP X Γ elt fe (.nw sh)) (hN : X.N.Nodup) (hix : ∀ i ∈ ix, i ∈ own.map (·.2) := by decide) (hΓ : ∀ i ∈ own.map (·.2), ∃ s, Γ[i]? = some s) (hc : X.calm = true := by rfl) (hs : ∀ x, foldedSetIterable iter X.env x = pure x := by intro _; rfl) :
    SP X Γ (.ListComp elt [⟨tg, iter, ifs, 0⟩] scope pos) (lcF (own.map (·.2)) it as tt fe) (.nw (.li sh)) := by
  obtain ⟨wi, pi, qi⟩ := hi.ex
  exact ⟨_, pe_lc (g := tgcan X.K Γ as ix) (tt := ttcan X.K Γ tt) (te := tcan X.K Γ fe (.nw sh)) hc hN pi ok (fun s H C cl fp => (hg s H C cl fp).can) (fun s H C cl fp => (ht s H C cl fp).can) (fun s H C cl fp => (he s H C cl fp).can) hs, lcO_sem qi hix hΓ⟩
end
end Py

namespace K73
open PySem PySem.Spec PyProof.Rows L2 Py
/-! ### the text: what stands at the top -/
def top (i : Nat) : Stmt := PySem.Challenge.pw_widenrows_k73_places_that_are_none.main.body.getD i (.Pass ⟨0, 0, 0, 0⟩)
def k_ENDS : D := (.tup [(.str "stop"), (.str "back"), (.str "halt"), (.str "jump")])
def k_LED : D := (.tup [(.str "jump"), (.str "zero"), (.str "below"), (.str "call"), (.str "mark")])
def k_MOST_WISHES : D := (.int 12)
structure Fx (P : Program) (w : World) (K : PySem.W.Frag) (mg : Str → Option Value) : Prop where
  f_list : mg "list" = none
  f_sorted : mg "sorted" = none
  f_set : mg "set" = none
  f_isinstance : mg "isinstance" = none
  f_bool : mg "bool" = none
  f_int : mg "int" = none
  f_len : mg "len" = none
  f_tuple : mg "tuple" = none
  f_enumerate : mg "enumerate" = none
  f_range : mg "range" = none
  f_ValueError : mg "ValueError" = none
  c_ENDS : Ct mg K "ENDS" k_ENDS
  c_LED : Ct mg K "LED" k_LED
  c_MOST_WISHES : Ct mg K "MOST_WISHES" k_MOST_WISHES
abbrev s_NoWish__init : Stmt := inCls (top 10) 0
theorem sc_NoWish__init : FnScope ["self", "at"] ["self", "at"] (defScope s_NoWish__init) := ⟨rfl, rfl, rfl, by decide +kernel, rfl, by decide +kernel, by decide +kernel⟩
structure Zx (P : Program) (w : World) (K : PySem.W.Frag) (mg : Str → Option Value) (base : Heap) (xc : Nat → Addr) : Prop where
  z_NoWish : Rz P w K mg base "NoWish" (xc 0)
  m_NoWish : mg "NoWish" = some (.ref (He.ga K "NoWish"))
  m_RowError : mg "RowError" = some (.ref (He.ga K "RowError"))
  m_NoRows : mg "NoRows" = some (.ref (He.ga K "NoRows"))
  m_NoFree : mg "NoFree" = some (.ref (He.ga K "NoFree"))
  m_NoPaper : mg "NoPaper" = some (.ref (He.ga K "NoPaper"))
  m_TooMuch : mg "TooMuch" = some (.ref (He.ga K "TooMuch"))
  m_NoLine : mg "NoLine" = some (.ref (He.ga K "NoLine"))
  e_0_RowError : PySem.W.exmOne K (.ref (xc 0)) (.ref (He.ga K "RowError")) = some true
  k_0_NoRows : PySem.W.kitOne K (.ref (xc 0)) (.ref (He.ga K "NoRows")) = some false
  k_0_NoFree : PySem.W.kitOne K (.ref (xc 0)) (.ref (He.ga K "NoFree")) = some false
  k_0_NoPaper : PySem.W.kitOne K (.ref (xc 0)) (.ref (He.ga K "NoPaper")) = some false
  k_0_TooMuch : PySem.W.kitOne K (.ref (xc 0)) (.ref (He.ga K "TooMuch")) = some false
  k_0_NoLine : PySem.W.kitOne K (.ref (xc 0)) (.ref (He.ga K "NoLine")) = some false
  k_0_NoWish : PySem.W.kitOne K (.ref (xc 0)) (.ref (He.ga K "NoWish")) = some true
  t_0 : PySem.W.kitOne K (.ref (xc 0)) (.type "ValueError") = some true
/-! ### goes_on -/
abbrev s_goes_on : Stmt := top 3
noncomputable def b_goes_on : SE := (qRt (p2i (b2 (b2 (vr 0) (c0 (.int 0)) ixD) (c0 k_ENDS) (inD true))))
theorem sc_goes_on : FnScope ["row"] ["row"] (defScope s_goes_on) := ⟨rfl, rfl, rfl, by decide +kernel, rfl, by decide +kernel, by decide +kernel⟩
noncomputable def f_goes_on : DF := mkF [.fz] 0 b_goes_on
theorem bo_goes_on {P : Program} {w : World} {K : PySem.W.Frag} {mg : Str → Option Value} {base : Heap} {xc : Nat → Addr} (x : Fx P w K mg) (z : Zx P w K mg base xc) (f : Addr) (cdv : Value) (A : Around) (outer : List Env) (s : Shared) (H : Hp) (E : XK) (hr : Room 0 (A.deeper (envOfC "goes_on" (defScope s_goes_on) s.heap.objs.size f cdv))) :
    SSs (cxOf (L2.CX P w) P w K mg base ["row"] "goes_on" (defScope s_goes_on) f cdv A outer s H E) xc (fun cls d _ H => E cls d H) 1 ([.fz] ++ []) .u (defBody s_goes_on) b_goes_on := by
  have tk := takes_of (X := cxOf (L2.CX P w) P w K mg base ["row"] "goes_on" (defScope s_goes_on) f cdv A outer s H E) (E := E) rfl rfl rfl rfl
  have hN := sc_goes_on.nd
  have hc : (cxOf (L2.CX P w) P w K mg base ["row"] "goes_on" (defScope s_goes_on) f cdv A outer s H E).calm = true := rfl
  have hu1 : (A.deeper (envOfC "goes_on" (defScope s_goes_on) s.heap.objs.size f cdv)).units + 1 < cLine := by have := hr.un; omega
  have hu : (A.deeper (envOfC "goes_on" (defScope s_goes_on) s.heap.objs.size f cdv)).units + 64 < cLine := by have := hr.un; omega
  have hu65 : (A.deeper (envOfC "goes_on" (defScope s_goes_on) s.heap.objs.size f cdv)).units + 65 < cLine := by have := hr.un; omega
  exact (qq_one (qs_ret (si_p (s_cmp (op_notInAny hu65) fl_notIn (sk .u (s_ix (s_var 0) s_int)) (s_glob x.c_ENDS)))))
theorem ok_goes_on {P : Program} {w : World} {K : PySem.W.Frag} {mg : Str → Option Value} {base : Heap} {xc : Nat → Addr} {f : Addr} {fd : FuncData} (x : Fx P w K mg) (z : Zx P w K mg base xc) (F : FunD K "goes_on" "goes_on" (defArgs s_goes_on) (defBody s_goes_on) (defScope s_goes_on) [] [] f fd) :
    FnOk P w K mg base (L2.CX P w) 1 f fd ["row"] (spD K xc [.fz] .u f_goes_on) :=
  df_ok (Γl := []) F sc_goes_on rfl rfl (.inl rfl) fun cdv A outer s H E hr => bo_goes_on x z f cdv A outer s H E hr
theorem df_goes_on {P : Program} {w : World} {K : PySem.W.Frag} {mg : Str → Option Value} {base : Heap} {xc : Nat → Addr} {f : Addr} {fd : FuncData} (x : Fx P w K mg) (z : Zx P w K mg base xc) (F : FunD K "goes_on" "goes_on" (defArgs s_goes_on) (defBody s_goes_on) (defScope s_goes_on) [] [] f fd) (kp : PySem.W.keepIn K (.ref f) = true) (hm : mg "goes_on" = some (.ref f)) :
    Df P w K mg base xc 1 "goes_on" ["row"] [.fz] .u f_goes_on [] :=
  ⟨f, fd, [], hm, ok_goes_on x z F, kp, F.bindsN (fun _ _ _ _ _ _ us hl => match us, hl with | [_], _ => rfl), .nil, rfl⟩
/-! ### targets_of -/
abbrev s_targets_of : Stmt := top 4
noncomputable def b_targets_of : SE := (q1 (qIf (tb (b2 (b2 (vr 0) (c0 (.int 0)) ixD) (c0 (.str "table")) eqD) asB) (qRt (p2i (bA (Py.a1 (b2 (vr 0) (c0 (.int 2)) ixD) a0) liD))) q0) (q1 (qIf (tb (b2 (b2 (vr 0) (c0 (.int 0)) ixD) (c0 k_LED) (inD false)) asB) (qRt (p2i (bA (Py.a1 (b2 (vr 0) (b1 (c0 (.int 2)) ngI) ixD) a0) lstD))) q0) (qRt (p2i (bA a0 lstD)))))
theorem sc_targets_of : FnScope ["row"] ["row"] (defScope s_targets_of) := ⟨rfl, rfl, rfl, by decide +kernel, rfl, by decide +kernel, by decide +kernel⟩
noncomputable def f_targets_of : DF := mkF [.fz] 0 b_targets_of
theorem bo_targets_of {P : Program} {w : World} {K : PySem.W.Frag} {mg : Str → Option Value} {base : Heap} {xc : Nat → Addr} (x : Fx P w K mg) (z : Zx P w K mg base xc) (f : Addr) (cdv : Value) (A : Around) (outer : List Env) (s : Shared) (H : Hp) (E : XK) (hr : Room 0 (A.deeper (envOfC "targets_of" (defScope s_targets_of) s.heap.objs.size f cdv))) :
    SSs (cxOf (L2.CX P w) P w K mg base ["row"] "targets_of" (defScope s_targets_of) f cdv A outer s H E) xc (fun cls d _ H => E cls d H) 1 ([.fz] ++ []) (.nw (.li .fz)) (defBody s_targets_of) b_targets_of := by
  have tk := takes_of (X := cxOf (L2.CX P w) P w K mg base ["row"] "targets_of" (defScope s_targets_of) f cdv A outer s H E) (E := E) rfl rfl rfl rfl
  have hN := sc_targets_of.nd
  have hc : (cxOf (L2.CX P w) P w K mg base ["row"] "targets_of" (defScope s_targets_of) f cdv A outer s H E).calm = true := rfl
  have hu1 : (A.deeper (envOfC "targets_of" (defScope s_targets_of) s.heap.objs.size f cdv)).units + 1 < cLine := by have := hr.un; omega
  have hu : (A.deeper (envOfC "targets_of" (defScope s_targets_of) s.heap.objs.size f cdv)).units + 64 < cLine := by have := hr.un; omega
  have hu65 : (A.deeper (envOfC "targets_of" (defScope s_targets_of) s.heap.objs.size f cdv)).units + 65 < cLine := by have := hr.un; omega
  exact (qq_cons (qs_if (st_cmp (op_eqD hu) fl_eq (sk .u (s_ix (s_var 0) s_int)) s_str) (qq_one (qs_ret (si_p (sk (.nw (.li .fz)) (s_list x.f_list (sk .u (s_ix (s_var 0) s_int))))))) qq_nil) (qq_cons (qs_if (st_cmp (op_inAny hu65) fl_in (sk .u (s_ix (s_var 0) s_int)) (s_glob x.c_LED)) (qq_one (qs_ret (si_p (sk (.nw (.li .fz)) (s_lst (sa_cons (sk .u (s_ix (s_var 0) (s_neg s_int))) sa_nil)))))) qq_nil) (qq_one (qs_ret (si_p (sk (.nw (.li .fz)) (s_lst sa_nil)))))))
theorem ok_targets_of {P : Program} {w : World} {K : PySem.W.Frag} {mg : Str → Option Value} {base : Heap} {xc : Nat → Addr} {f : Addr} {fd : FuncData} (x : Fx P w K mg) (z : Zx P w K mg base xc) (F : FunD K "targets_of" "targets_of" (defArgs s_targets_of) (defBody s_targets_of) (defScope s_targets_of) [] [] f fd) :
    FnOk P w K mg base (L2.CX P w) 1 f fd ["row"] (spD K xc [.fz] (.nw (.li .fz)) f_targets_of) :=
  df_ok (Γl := []) F sc_targets_of rfl rfl (.inr (nnx_q1 (nnx_q1 nnx_rt))) fun cdv A outer s H E hr => bo_targets_of x z f cdv A outer s H E hr
theorem df_targets_of {P : Program} {w : World} {K : PySem.W.Frag} {mg : Str → Option Value} {base : Heap} {xc : Nat → Addr} {f : Addr} {fd : FuncData} (x : Fx P w K mg) (z : Zx P w K mg base xc) (F : FunD K "targets_of" "targets_of" (defArgs s_targets_of) (defBody s_targets_of) (defScope s_targets_of) [] [] f fd) (kp : PySem.W.keepIn K (.ref f) = true) (hm : mg "targets_of" = some (.ref f)) :
    Df P w K mg base xc 1 "targets_of" ["row"] [.fz] (.nw (.li .fz)) f_targets_of [] :=
  ⟨f, fd, [], hm, ok_targets_of x z F, kp, F.bindsN (fun _ _ _ _ _ _ us hl => match us, hl with | [_], _ => rfl), .nil, rfl⟩
/-! ### ways_of -/
abbrev s_ways_of : Stmt := top 5
noncomputable def b_ways_of : SE := (q1 (qDo (p2i (bA (Py.a1 (b2 (vr 0) (vr 1) ixD) a0) (cD f_targets_of []))) (Py.put 2)) (q1 (qIf (tb (bA (Py.a1 (b2 (vr 0) (vr 1) ixD) a0) (cD f_goes_on [])) truD) (qAp 2 (p2i (b2 (vr 1) (c0 (.int 1)) adD))) q0) (qRt (p2i (b1 (vr 2) srtD)))))
theorem sc_ways_of : FnScope ["rows", "r", "found"] ["rows", "r"] (defScope s_ways_of) := ⟨rfl, rfl, rfl, by decide +kernel, rfl, by decide +kernel, by decide +kernel⟩
noncomputable def f_ways_of : DF := mkF [.fz, .fz] 1 b_ways_of
theorem bo_ways_of {P : Program} {w : World} {K : PySem.W.Frag} {mg : Str → Option Value} {base : Heap} {xc : Nat → Addr} (x : Fx P w K mg) (z : Zx P w K mg base xc) (d_targets_of : Df P w K mg base xc 1 "targets_of" ["row"] [.fz] (.nw (.li .fz)) f_targets_of []) (d_goes_on : Df P w K mg base xc 1 "goes_on" ["row"] [.fz] .u f_goes_on []) (f : Addr) (cdv : Value) (A : Around) (outer : List Env) (s : Shared) (H : Hp) (E : XK) (hr : Room 1 (A.deeper (envOfC "ways_of" (defScope s_ways_of) s.heap.objs.size f cdv))) :
    SSs (cxOf (L2.CX P w) P w K mg base ["rows", "r", "found"] "ways_of" (defScope s_ways_of) f cdv A outer s H E) xc (fun cls d _ H => E cls d H) 2 ([.fz, .fz] ++ [(.li .fz)]) (.nw (.li .fz)) (defBody s_ways_of) b_ways_of := by
  have tk := takes_of (X := cxOf (L2.CX P w) P w K mg base ["rows", "r", "found"] "ways_of" (defScope s_ways_of) f cdv A outer s H E) (E := E) rfl rfl rfl rfl
  have hN := sc_ways_of.nd
  have hc : (cxOf (L2.CX P w) P w K mg base ["rows", "r", "found"] "ways_of" (defScope s_ways_of) f cdv A outer s H E).calm = true := rfl
  have hu1 : (A.deeper (envOfC "ways_of" (defScope s_ways_of) s.heap.objs.size f cdv)).units + 1 < cLine := by have := hr.un; omega
  have hu : (A.deeper (envOfC "ways_of" (defScope s_ways_of) s.heap.objs.size f cdv)).units + 64 < cLine := by have := hr.un; omega
  have hu65 : (A.deeper (envOfC "ways_of" (defScope s_ways_of) s.heap.objs.size f cdv)).units + 65 < cLine := by have := hr.un; omega
  exact (qq_cons (qs_setO 2 (si_p (s_callD d_targets_of hr (sa_cons (sk .u (s_ix (s_var 0) (s_var 1))) sa_nil))) hN) (qq_cons (qs_if (st_tru (s_callD d_goes_on hr (sa_cons (sk .u (s_ix (s_var 0) (s_var 1))) sa_nil))) (qq_one (qs_append 2 (si_p (sk .u (s_add (s_var 1) s_int))))) qq_nil) (qq_one (qs_ret (si_p (s_sortset hc x.f_set x.f_sorted (s_vw 2)))))))
theorem ok_ways_of {P : Program} {w : World} {K : PySem.W.Frag} {mg : Str → Option Value} {base : Heap} {xc : Nat → Addr} {f : Addr} {fd : FuncData} (x : Fx P w K mg) (z : Zx P w K mg base xc) (d_targets_of : Df P w K mg base xc 1 "targets_of" ["row"] [.fz] (.nw (.li .fz)) f_targets_of []) (d_goes_on : Df P w K mg base xc 1 "goes_on" ["row"] [.fz] .u f_goes_on []) (F : FunD K "ways_of" "ways_of" (defArgs s_ways_of) (defBody s_ways_of) (defScope s_ways_of) [] [] f fd) :
    FnOk P w K mg base (L2.CX P w) 2 f fd ["rows", "r"] (spD K xc [.fz, .fz] (.nw (.li .fz)) f_ways_of) :=
  df_ok (Γl := [(.li .fz)]) F sc_ways_of rfl rfl (.inr (nnx_q1 (nnx_q1 nnx_rt))) fun cdv A outer s H E hr => bo_ways_of x z d_targets_of d_goes_on f cdv A outer s H E hr
theorem df_ways_of {P : Program} {w : World} {K : PySem.W.Frag} {mg : Str → Option Value} {base : Heap} {xc : Nat → Addr} {f : Addr} {fd : FuncData} (x : Fx P w K mg) (z : Zx P w K mg base xc) (d_targets_of : Df P w K mg base xc 1 "targets_of" ["row"] [.fz] (.nw (.li .fz)) f_targets_of []) (d_goes_on : Df P w K mg base xc 1 "goes_on" ["row"] [.fz] .u f_goes_on []) (F : FunD K "ways_of" "ways_of" (defArgs s_ways_of) (defBody s_ways_of) (defScope s_ways_of) [] [] f fd) (kp : PySem.W.keepIn K (.ref f) = true) (hm : mg "ways_of" = some (.ref f)) :
    Df P w K mg base xc 2 "ways_of" ["rows", "r"] [.fz, .fz] (.nw (.li .fz)) f_ways_of [] :=
  ⟨f, fd, [], hm, ok_ways_of x z d_targets_of d_goes_on F, kp, F.bindsN (fun _ _ _ _ _ _ us hl => match us, hl with | [_, _], _ => rfl), .nil, rfl⟩
/-! ### is_from -/
abbrev s_is_from : Stmt := top 16
noncomputable def b_is_from : SE := (qRt (p2i (vA (b1 (vr 0) (isD "int")) (vA (vN (b1 (vr 0) (isD "bool"))) (ch (vr 1) (vr 0) (vr 2) leI leI)))))
theorem sc_is_from : FnScope ["one", "low", "high"] ["one", "low", "high"] (defScope s_is_from) := ⟨rfl, rfl, rfl, by decide +kernel, rfl, by decide +kernel, by decide +kernel⟩
noncomputable def f_is_from : DF := mkF [.fz, .fz, .fz] 0 b_is_from
theorem bo_is_from {P : Program} {w : World} {K : PySem.W.Frag} {mg : Str → Option Value} {base : Heap} {xc : Nat → Addr} (x : Fx P w K mg) (z : Zx P w K mg base xc) (f : Addr) (cdv : Value) (A : Around) (outer : List Env) (s : Shared) (H : Hp) (E : XK) (hr : Room 0 (A.deeper (envOfC "is_from" (defScope s_is_from) s.heap.objs.size f cdv))) :
    SSs (cxOf (L2.CX P w) P w K mg base ["one", "low", "high"] "is_from" (defScope s_is_from) f cdv A outer s H E) xc (fun cls d _ H => E cls d H) 3 ([.fz, .fz, .fz] ++ []) .u (defBody s_is_from) b_is_from := by
  have tk := takes_of (X := cxOf (L2.CX P w) P w K mg base ["one", "low", "high"] "is_from" (defScope s_is_from) f cdv A outer s H E) (E := E) rfl rfl rfl rfl
  have hN := sc_is_from.nd
  have hc : (cxOf (L2.CX P w) P w K mg base ["one", "low", "high"] "is_from" (defScope s_is_from) f cdv A outer s H E).calm = true := rfl
  have hu1 : (A.deeper (envOfC "is_from" (defScope s_is_from) s.heap.objs.size f cdv)).units + 1 < cLine := by have := hr.un; omega
  have hu : (A.deeper (envOfC "is_from" (defScope s_is_from) s.heap.objs.size f cdv)).units + 64 < cLine := by have := hr.un; omega
  have hu65 : (A.deeper (envOfC "is_from" (defScope s_is_from) s.heap.objs.size f cdv)).units + 65 < cLine := by have := hr.un; omega
  exact (qq_one (qs_ret (si_p (s_and (s_isi x.f_isinstance x.f_int (s_var 0)) (s_and (s_not (s_isi x.f_isinstance x.f_bool (s_var 0))) (s_one (s_chain op_le op_le fl_cp fl_cp (s_var 1) (s_var 0) (s_var 2))))))))
theorem ok_is_from {P : Program} {w : World} {K : PySem.W.Frag} {mg : Str → Option Value} {base : Heap} {xc : Nat → Addr} {f : Addr} {fd : FuncData} (x : Fx P w K mg) (z : Zx P w K mg base xc) (F : FunD K "is_from" "is_from" (defArgs s_is_from) (defBody s_is_from) (defScope s_is_from) [] [] f fd) :
    FnOk P w K mg base (L2.CX P w) 1 f fd ["one", "low", "high"] (spD K xc [.fz, .fz, .fz] .u f_is_from) :=
  df_ok (Γl := []) F sc_is_from rfl rfl (.inl rfl) fun cdv A outer s H E hr => bo_is_from x z f cdv A outer s H E hr
theorem df_is_from {P : Program} {w : World} {K : PySem.W.Frag} {mg : Str → Option Value} {base : Heap} {xc : Nat → Addr} {f : Addr} {fd : FuncData} (x : Fx P w K mg) (z : Zx P w K mg base xc) (F : FunD K "is_from" "is_from" (defArgs s_is_from) (defBody s_is_from) (defScope s_is_from) [] [] f fd) (kp : PySem.W.keepIn K (.ref f) = true) (hm : mg "is_from" = some (.ref f)) :
    Df P w K mg base xc 1 "is_from" ["one", "low", "high"] [.fz, .fz, .fz] .u f_is_from [] :=
  ⟨f, fd, [], hm, ok_is_from x z F, kp, F.bindsN (fun _ _ _ _ _ _ us hl => match us, hl with | [_, _, _], _ => rfl), .nil, rfl⟩
/-! ### is_place -/
abbrev s_is_place : Stmt := top 17
noncomputable def b_is_place : SE := (q1 (qIf (tO (tN (tb (b1 (vr 1) (isD "tuple")) truD)) (tO (tb (b2 (bA (Py.a1 (vr 1) a0) lenD) (c0 (.int 2)) ltI) asB) (tN (tb (bA (Py.a1 (b2 (vr 1) (c0 (.int 1)) ixD) (Py.a1 (c0 (.int 0)) (Py.a1 (b2 (bA (Py.a1 (vr 0) a0) lenD) (c0 (.int 1)) sbI) a0))) (cD f_is_from [])) truD)))) (qRt (p2i (c0 (.bl false)))) q0) (q1 (qIf (tb (b2 (b2 (vr 1) (c0 (.int 0)) ixD) (c0 (.str "before")) eqD) asB) (qRt (p2i (b2 (bA (Py.a1 (vr 1) a0) lenD) (c0 (.int 2)) eqD))) q0) (q1 (qIf (tb (b2 (b2 (vr 1) (c0 (.int 0)) ixD) (c0 (.str "after")) eqD) asB) (qRt (p2i (vA (b2 (bA (Py.a1 (vr 1) a0) lenD) (c0 (.int 2)) eqD) (b2 (bA (Py.a1 (vr 0) (Py.a1 (b2 (vr 1) (c0 (.int 1)) ixD) a0)) (cD f_ways_of [])) (bA a0 lstD) neD)))) q0) (q1 (qIf (tA (tb (b2 (b2 (vr 1) (c0 (.int 0)) ixD) (c0 (.str "way")) eqD) asB) (tb (b2 (bA (Py.a1 (vr 1) a0) lenD) (c0 (.int 3)) eqD) asB)) (qRt (p2i (vA (bA (Py.a1 (b2 (vr 1) (c0 (.int 2)) ixD) (Py.a1 (c0 (.int 0)) (Py.a1 (b2 (bA (Py.a1 (vr 0) a0) lenD) (c0 (.int 1)) sbI) a0))) (cD f_is_from [])) (b2 (b2 (vr 1) (c0 (.int 2)) ixD) (bA (Py.a1 (vr 0) (Py.a1 (b2 (vr 1) (c0 (.int 1)) ixD) a0)) (cD f_ways_of [])) (inD false))))) q0) (qRt (p2i (c0 (.bl false))))))))
theorem sc_is_place : FnScope ["rows", "place"] ["rows", "place"] (defScope s_is_place) := ⟨rfl, rfl, rfl, by decide +kernel, rfl, by decide +kernel, by decide +kernel⟩
noncomputable def f_is_place : DF := mkF [.fz, .fz] 0 b_is_place
theorem bo_is_place {P : Program} {w : World} {K : PySem.W.Frag} {mg : Str → Option Value} {base : Heap} {xc : Nat → Addr} (x : Fx P w K mg) (z : Zx P w K mg base xc) (d_is_from : Df P w K mg base xc 1 "is_from" ["one", "low", "high"] [.fz, .fz, .fz] .u f_is_from []) (d_ways_of : Df P w K mg base xc 2 "ways_of" ["rows", "r"] [.fz, .fz] (.nw (.li .fz)) f_ways_of []) (f : Addr) (cdv : Value) (A : Around) (outer : List Env) (s : Shared) (H : Hp) (E : XK) (hr : Room 2 (A.deeper (envOfC "is_place" (defScope s_is_place) s.heap.objs.size f cdv))) :
    SSs (cxOf (L2.CX P w) P w K mg base ["rows", "place"] "is_place" (defScope s_is_place) f cdv A outer s H E) xc (fun cls d _ H => E cls d H) 2 ([.fz, .fz] ++ []) .u (defBody s_is_place) b_is_place := by
  have tk := takes_of (X := cxOf (L2.CX P w) P w K mg base ["rows", "place"] "is_place" (defScope s_is_place) f cdv A outer s H E) (E := E) rfl rfl rfl rfl
  have hN := sc_is_place.nd
  have hc : (cxOf (L2.CX P w) P w K mg base ["rows", "place"] "is_place" (defScope s_is_place) f cdv A outer s H E).calm = true := rfl
  have hu1 : (A.deeper (envOfC "is_place" (defScope s_is_place) s.heap.objs.size f cdv)).units + 1 < cLine := by have := hr.un; omega
  have hu : (A.deeper (envOfC "is_place" (defScope s_is_place) s.heap.objs.size f cdv)).units + 64 < cLine := by have := hr.un; omega
  have hu65 : (A.deeper (envOfC "is_place" (defScope s_is_place) s.heap.objs.size f cdv)).units + 65 < cLine := by have := hr.un; omega
  exact (qq_cons (qs_if (SW.st (sw_or (st_not (st_tru (s_isi x.f_isinstance x.f_tuple (s_var 1)))) (sw_or (st_cmp op_lt fl_cp (s_call call_len fl_len x.f_len (sa_cons (s_var 1) sa_nil)) s_int) (sw_or1 (st_not (st_tru (s_callD d_is_from hr (sa_cons (sk .u (s_ix (s_var 1) s_int)) (sa_cons s_int (sa_cons (s_bin op_sub fl_sub (s_call call_len fl_len x.f_len (sa_cons (s_var 0) sa_nil)) s_int) sa_nil)))))))))) (qq_one (qs_ret (si_p s_bl))) qq_nil) (qq_cons (qs_if (st_cmp (op_eqD hu) fl_eq (sk .u (s_ix (s_var 1) s_int)) s_str) (qq_one (qs_ret (si_p (s_cmp (op_eqD hu) fl_eq (s_call call_len fl_len x.f_len (sa_cons (s_var 1) sa_nil)) s_int)))) qq_nil) (qq_cons (qs_if (st_cmp (op_eqD hu) fl_eq (sk .u (s_ix (s_var 1) s_int)) s_str) (qq_one (qs_ret (si_p (s_and (s_cmp (op_eqD hu) fl_eq (s_call call_len fl_len x.f_len (sa_cons (s_var 1) sa_nil)) s_int) (s_one (s_cmp (op_neD hu) fl_ne (s_callD d_ways_of hr (sa_cons (s_var 0) (sa_cons (sk .u (s_ix (s_var 1) s_int)) sa_nil))) (sk (.nw (.li .fz)) (s_lst sa_nil)))))))) qq_nil) (qq_cons (qs_if (SW.st (sw_and (st_cmp (op_eqD hu) fl_eq (sk .u (s_ix (s_var 1) s_int)) s_str) (sw_and1 (st_cmp (op_eqD hu) fl_eq (s_call call_len fl_len x.f_len (sa_cons (s_var 1) sa_nil)) s_int)))) (qq_one (qs_ret (si_p (s_and (s_callD d_is_from hr (sa_cons (sk .u (s_ix (s_var 1) s_int)) (sa_cons s_int (sa_cons (s_bin op_sub fl_sub (s_call call_len fl_len x.f_len (sa_cons (s_var 0) sa_nil)) s_int) sa_nil)))) (s_one (s_cmp (op_inAny hu65) fl_in (sk .u (s_ix (s_var 1) s_int)) (s_callD d_ways_of hr (sa_cons (s_var 0) (sa_cons (sk .u (s_ix (s_var 1) s_int)) sa_nil))))))))) qq_nil) (qq_one (qs_ret (si_p s_bl)))))))
theorem ok_is_place {P : Program} {w : World} {K : PySem.W.Frag} {mg : Str → Option Value} {base : Heap} {xc : Nat → Addr} {f : Addr} {fd : FuncData} (x : Fx P w K mg) (z : Zx P w K mg base xc) (d_is_from : Df P w K mg base xc 1 "is_from" ["one", "low", "high"] [.fz, .fz, .fz] .u f_is_from []) (d_ways_of : Df P w K mg base xc 2 "ways_of" ["rows", "r"] [.fz, .fz] (.nw (.li .fz)) f_ways_of []) (F : FunD K "is_place" "is_place" (defArgs s_is_place) (defBody s_is_place) (defScope s_is_place) [] [] f fd) :
    FnOk P w K mg base (L2.CX P w) 3 f fd ["rows", "place"] (spD K xc [.fz, .fz] .u f_is_place) :=
  df_ok (Γl := []) F sc_is_place rfl rfl (.inl rfl) fun cdv A outer s H E hr => bo_is_place x z d_is_from d_ways_of f cdv A outer s H E hr
theorem df_is_place {P : Program} {w : World} {K : PySem.W.Frag} {mg : Str → Option Value} {base : Heap} {xc : Nat → Addr} {f : Addr} {fd : FuncData} (x : Fx P w K mg) (z : Zx P w K mg base xc) (d_is_from : Df P w K mg base xc 1 "is_from" ["one", "low", "high"] [.fz, .fz, .fz] .u f_is_from []) (d_ways_of : Df P w K mg base xc 2 "ways_of" ["rows", "r"] [.fz, .fz] (.nw (.li .fz)) f_ways_of []) (F : FunD K "is_place" "is_place" (defArgs s_is_place) (defBody s_is_place) (defScope s_is_place) [] [] f fd) (kp : PySem.W.keepIn K (.ref f) = true) (hm : mg "is_place" = some (.ref f)) :
    Df P w K mg base xc 3 "is_place" ["rows", "place"] [.fz, .fz] .u f_is_place [] :=
  ⟨f, fd, [], hm, ok_is_place x z d_is_from d_ways_of F, kp, F.bindsN (fun _ _ _ _ _ _ us hl => match us, hl with | [_, _], _ => rfl), .nil, rfl⟩
/-! ### is_what -/
abbrev s_is_what : Stmt := top 18
noncomputable def b_is_what : SE := (q1 (qIf (tO (tN (tb (b1 (vr 0) (isD "tuple")) truD)) (tO (tb (b2 (bA (Py.a1 (vr 0) a0) lenD) (c0 (.int 2)) ltI) asB) (tN (tb (bA (Py.a1 (b2 (vr 0) (c0 (.int 1)) ixD) (Py.a1 (c0 (.int 0)) (Py.a1 (b2 (c0 (.int 10)) (c0 (.int 6)) pwI) a0))) (cD f_is_from [])) truD)))) (qRt (p2i (c0 (.bl false)))) q0) (q1 (qIf (tb (b2 (b2 (vr 0) (c0 (.int 0)) ixD) (c0 (.str "count")) eqD) asB) (qRt (p2i (b2 (bA (Py.a1 (vr 0) a0) lenD) (c0 (.int 2)) eqD))) q0) (q1 (qIf (tO (tb (b2 (b2 (vr 0) (c0 (.int 0)) ixD) (c0 (.str "look")) eqD) asB) (tb (b2 (b2 (vr 0) (c0 (.int 0)) ixD) (c0 (.str "guard")) eqD) asB)) (qRt (p2i (vA (b2 (bA (Py.a1 (vr 0) a0) lenD) (c0 (.int 3)) eqD) (bA (Py.a1 (b2 (vr 0) (c0 (.int 2)) ixD) (Py.a1 (c0 (.int 0)) (Py.a1 (c0 (.int 7)) a0))) (cD f_is_from []))))) q0) (qRt (p2i (c0 (.bl false)))))))
theorem sc_is_what : FnScope ["what"] ["what"] (defScope s_is_what) := ⟨rfl, rfl, rfl, by decide +kernel, rfl, by decide +kernel, by decide +kernel⟩
noncomputable def f_is_what : DF := mkF [.fz] 0 b_is_what
theorem bo_is_what {P : Program} {w : World} {K : PySem.W.Frag} {mg : Str → Option Value} {base : Heap} {xc : Nat → Addr} (x : Fx P w K mg) (z : Zx P w K mg base xc) (d_is_from : Df P w K mg base xc 1 "is_from" ["one", "low", "high"] [.fz, .fz, .fz] .u f_is_from []) (f : Addr) (cdv : Value) (A : Around) (outer : List Env) (s : Shared) (H : Hp) (E : XK) (hr : Room 1 (A.deeper (envOfC "is_what" (defScope s_is_what) s.heap.objs.size f cdv))) :
    SSs (cxOf (L2.CX P w) P w K mg base ["what"] "is_what" (defScope s_is_what) f cdv A outer s H E) xc (fun cls d _ H => E cls d H) 1 ([.fz] ++ []) .u (defBody s_is_what) b_is_what := by
  have tk := takes_of (X := cxOf (L2.CX P w) P w K mg base ["what"] "is_what" (defScope s_is_what) f cdv A outer s H E) (E := E) rfl rfl rfl rfl
  have hN := sc_is_what.nd
  have hc : (cxOf (L2.CX P w) P w K mg base ["what"] "is_what" (defScope s_is_what) f cdv A outer s H E).calm = true := rfl
  have hu1 : (A.deeper (envOfC "is_what" (defScope s_is_what) s.heap.objs.size f cdv)).units + 1 < cLine := by have := hr.un; omega
  have hu : (A.deeper (envOfC "is_what" (defScope s_is_what) s.heap.objs.size f cdv)).units + 64 < cLine := by have := hr.un; omega
  have hu65 : (A.deeper (envOfC "is_what" (defScope s_is_what) s.heap.objs.size f cdv)).units + 65 < cLine := by have := hr.un; omega
  exact (qq_cons (qs_if (SW.st (sw_or (st_not (st_tru (s_isi x.f_isinstance x.f_tuple (s_var 0)))) (sw_or (st_cmp op_lt fl_cp (s_call call_len fl_len x.f_len (sa_cons (s_var 0) sa_nil)) s_int) (sw_or1 (st_not (st_tru (s_callD d_is_from hr (sa_cons (sk .u (s_ix (s_var 0) s_int)) (sa_cons s_int (sa_cons (s_bin op_pow fl_pow s_int s_int) sa_nil)))))))))) (qq_one (qs_ret (si_p s_bl))) qq_nil) (qq_cons (qs_if (st_cmp (op_eqD hu) fl_eq (sk .u (s_ix (s_var 0) s_int)) s_str) (qq_one (qs_ret (si_p (s_cmp (op_eqD hu) fl_eq (s_call call_len fl_len x.f_len (sa_cons (s_var 0) sa_nil)) s_int)))) qq_nil) (qq_cons (qs_if (SW.st (sw_or (st_cmp (op_eqD hu) fl_eq (sk .u (s_ix (s_var 0) s_int)) s_str) (sw_or1 (st_cmp (op_eqD hu) fl_eq (sk .u (s_ix (s_var 0) s_int)) s_str)))) (qq_one (qs_ret (si_p (s_and (s_cmp (op_eqD hu) fl_eq (s_call call_len fl_len x.f_len (sa_cons (s_var 0) sa_nil)) s_int) (s_one (s_callD d_is_from hr (sa_cons (sk .u (s_ix (s_var 0) s_int)) (sa_cons s_int (sa_cons s_int sa_nil))))))))) qq_nil) (qq_one (qs_ret (si_p s_bl))))))
theorem ok_is_what {P : Program} {w : World} {K : PySem.W.Frag} {mg : Str → Option Value} {base : Heap} {xc : Nat → Addr} {f : Addr} {fd : FuncData} (x : Fx P w K mg) (z : Zx P w K mg base xc) (d_is_from : Df P w K mg base xc 1 "is_from" ["one", "low", "high"] [.fz, .fz, .fz] .u f_is_from []) (F : FunD K "is_what" "is_what" (defArgs s_is_what) (defBody s_is_what) (defScope s_is_what) [] [] f fd) :
    FnOk P w K mg base (L2.CX P w) 2 f fd ["what"] (spD K xc [.fz] .u f_is_what) :=
  df_ok (Γl := []) F sc_is_what rfl rfl (.inl rfl) fun cdv A outer s H E hr => bo_is_what x z d_is_from f cdv A outer s H E hr
theorem df_is_what {P : Program} {w : World} {K : PySem.W.Frag} {mg : Str → Option Value} {base : Heap} {xc : Nat → Addr} {f : Addr} {fd : FuncData} (x : Fx P w K mg) (z : Zx P w K mg base xc) (d_is_from : Df P w K mg base xc 1 "is_from" ["one", "low", "high"] [.fz, .fz, .fz] .u f_is_from []) (F : FunD K "is_what" "is_what" (defArgs s_is_what) (defBody s_is_what) (defScope s_is_what) [] [] f fd) (kp : PySem.W.keepIn K (.ref f) = true) (hm : mg "is_what" = some (.ref f)) :
    Df P w K mg base xc 2 "is_what" ["what"] [.fz] .u f_is_what [] :=
  ⟨f, fd, [], hm, ok_is_what x z d_is_from F, kp, F.bindsN (fun _ _ _ _ _ _ us hl => match us, hl with | [_], _ => rfl), .nil, rfl⟩
/-! ### is_wish -/
abbrev s_is_wish : Stmt := top 19
noncomputable def b_is_wish : SE := (q1 (qIf (tO (tN (tb (b1 (vr 1) (isD "tuple")) truD)) (tb (b2 (bA (Py.a1 (vr 1) a0) lenD) (c0 (.int 2)) neD) asB)) (qRt (p2i (c0 (.bl false)))) q0) (qRt (p2i (vA (bA (Py.a1 (vr 0) (Py.a1 (b2 (vr 1) (c0 (.int 0)) ixD) a0)) (cD f_is_place [])) (bA (Py.a1 (b2 (vr 1) (c0 (.int 1)) ixD) a0) (cD f_is_what []))))))
theorem sc_is_wish : FnScope ["rows", "wish"] ["rows", "wish"] (defScope s_is_wish) := ⟨rfl, rfl, rfl, by decide +kernel, rfl, by decide +kernel, by decide +kernel⟩
noncomputable def f_is_wish : DF := mkF [.fz, .fz] 0 b_is_wish
theorem bo_is_wish {P : Program} {w : World} {K : PySem.W.Frag} {mg : Str → Option Value} {base : Heap} {xc : Nat → Addr} (x : Fx P w K mg) (z : Zx P w K mg base xc) (d_is_what : Df P w K mg base xc 2 "is_what" ["what"] [.fz] .u f_is_what []) (d_is_place : Df P w K mg base xc 3 "is_place" ["rows", "place"] [.fz, .fz] .u f_is_place []) (f : Addr) (cdv : Value) (A : Around) (outer : List Env) (s : Shared) (H : Hp) (E : XK) (hr : Room 3 (A.deeper (envOfC "is_wish" (defScope s_is_wish) s.heap.objs.size f cdv))) :
    SSs (cxOf (L2.CX P w) P w K mg base ["rows", "wish"] "is_wish" (defScope s_is_wish) f cdv A outer s H E) xc (fun cls d _ H => E cls d H) 2 ([.fz, .fz] ++ []) .u (defBody s_is_wish) b_is_wish := by
  have tk := takes_of (X := cxOf (L2.CX P w) P w K mg base ["rows", "wish"] "is_wish" (defScope s_is_wish) f cdv A outer s H E) (E := E) rfl rfl rfl rfl
  have hN := sc_is_wish.nd
  have hc : (cxOf (L2.CX P w) P w K mg base ["rows", "wish"] "is_wish" (defScope s_is_wish) f cdv A outer s H E).calm = true := rfl
  have hu1 : (A.deeper (envOfC "is_wish" (defScope s_is_wish) s.heap.objs.size f cdv)).units + 1 < cLine := by have := hr.un; omega
  have hu : (A.deeper (envOfC "is_wish" (defScope s_is_wish) s.heap.objs.size f cdv)).units + 64 < cLine := by have := hr.un; omega
  have hu65 : (A.deeper (envOfC "is_wish" (defScope s_is_wish) s.heap.objs.size f cdv)).units + 65 < cLine := by have := hr.un; omega
  exact (qq_cons (qs_if (SW.st (sw_or (st_not (st_tru (s_isi x.f_isinstance x.f_tuple (s_var 1)))) (sw_or1 (st_cmp (op_neD hu) fl_ne (s_call call_len fl_len x.f_len (sa_cons (s_var 1) sa_nil)) s_int)))) (qq_one (qs_ret (si_p s_bl))) qq_nil) (qq_one (qs_ret (si_p (s_and (s_callD d_is_place hr (sa_cons (s_var 0) (sa_cons (sk .u (s_ix (s_var 1) s_int)) sa_nil))) (s_one (s_callD d_is_what hr (sa_cons (sk .u (s_ix (s_var 1) s_int)) sa_nil))))))))
theorem ok_is_wish {P : Program} {w : World} {K : PySem.W.Frag} {mg : Str → Option Value} {base : Heap} {xc : Nat → Addr} {f : Addr} {fd : FuncData} (x : Fx P w K mg) (z : Zx P w K mg base xc) (d_is_what : Df P w K mg base xc 2 "is_what" ["what"] [.fz] .u f_is_what []) (d_is_place : Df P w K mg base xc 3 "is_place" ["rows", "place"] [.fz, .fz] .u f_is_place []) (F : FunD K "is_wish" "is_wish" (defArgs s_is_wish) (defBody s_is_wish) (defScope s_is_wish) [] [] f fd) :
    FnOk P w K mg base (L2.CX P w) 4 f fd ["rows", "wish"] (spD K xc [.fz, .fz] .u f_is_wish) :=
  df_ok (Γl := []) F sc_is_wish rfl rfl (.inl rfl) fun cdv A outer s H E hr => bo_is_wish x z d_is_what d_is_place f cdv A outer s H E hr
theorem df_is_wish {P : Program} {w : World} {K : PySem.W.Frag} {mg : Str → Option Value} {base : Heap} {xc : Nat → Addr} {f : Addr} {fd : FuncData} (x : Fx P w K mg) (z : Zx P w K mg base xc) (d_is_what : Df P w K mg base xc 2 "is_what" ["what"] [.fz] .u f_is_what []) (d_is_place : Df P w K mg base xc 3 "is_place" ["rows", "place"] [.fz, .fz] .u f_is_place []) (F : FunD K "is_wish" "is_wish" (defArgs s_is_wish) (defBody s_is_wish) (defScope s_is_wish) [] [] f fd) (kp : PySem.W.keepIn K (.ref f) = true) (hm : mg "is_wish" = some (.ref f)) :
    Df P w K mg base xc 4 "is_wish" ["rows", "wish"] [.fz, .fz] .u f_is_wish [] :=
  ⟨f, fd, [], hm, ok_is_wish x z d_is_what d_is_place F, kp, F.bindsN (fun _ _ _ _ _ _ us hl => match us, hl with | [_, _], _ => rfl), .nil, rfl⟩
/-! ### check_wishes -/
abbrev s_check_wishes : Stmt := top 20
noncomputable def l0_check_wishes : SE := (qIf (tN (tb (bA (Py.a1 (vr 0) (Py.a1 (vr 3) a0)) (cD f_is_wish [])) truD)) (qRaise 0 (vr 2)) q0)
noncomputable def b_check_wishes : SE := (q1 (qIf (tN (tb (b1 (vr 1) (isD "list")) truD)) (qRaise 0 (c0 (.int 0))) q0) (q1 (qFor (itD (b3 (vr 1) oN (oS (c0 k_MOST_WISHES)) slD) enD) (gT (g1 (Py.put 2) (g1 (Py.put 3) g0))) l0_check_wishes) (qIf (tb (b2 (bA (Py.a1 (vr 1) a0) lenD) (c0 k_MOST_WISHES) gtI) asB) (qRaise 0 (c0 k_MOST_WISHES)) q0)))
theorem sc_check_wishes : FnScope ["rows", "wishes", "at", "wish"] ["rows", "wishes"] (defScope s_check_wishes) := ⟨rfl, rfl, rfl, by decide +kernel, rfl, by decide +kernel, by decide +kernel⟩
noncomputable def f_check_wishes : DF := mkF [.fz, .fz] 2 b_check_wishes
theorem bo_check_wishes {P : Program} {w : World} {K : PySem.W.Frag} {mg : Str → Option Value} {base : Heap} {xc : Nat → Addr} (x : Fx P w K mg) (z : Zx P w K mg base xc) (d_is_wish : Df P w K mg base xc 4 "is_wish" ["rows", "wish"] [.fz, .fz] .u f_is_wish []) (f : Addr) (cdv : Value) (A : Around) (outer : List Env) (s : Shared) (H : Hp) (E : XK) (hr : Room 4 (A.deeper (envOfC "check_wishes" (defScope s_check_wishes) s.heap.objs.size f cdv))) :
    SSs (cxOf (L2.CX P w) P w K mg base ["rows", "wishes", "at", "wish"] "check_wishes" (defScope s_check_wishes) f cdv A outer s H E) xc (fun cls d _ H => E cls d H) 2 ([.fz, .fz] ++ [.fz, .fz]) .u (defBody s_check_wishes) b_check_wishes := by
  have tk := takes_of (X := cxOf (L2.CX P w) P w K mg base ["rows", "wishes", "at", "wish"] "check_wishes" (defScope s_check_wishes) f cdv A outer s H E) (E := E) rfl rfl rfl rfl
  have hN := sc_check_wishes.nd
  have hc : (cxOf (L2.CX P w) P w K mg base ["rows", "wishes", "at", "wish"] "check_wishes" (defScope s_check_wishes) f cdv A outer s H E).calm = true := rfl
  have hu1 : (A.deeper (envOfC "check_wishes" (defScope s_check_wishes) s.heap.objs.size f cdv)).units + 1 < cLine := by have := hr.un; omega
  have hu : (A.deeper (envOfC "check_wishes" (defScope s_check_wishes) s.heap.objs.size f cdv)).units + 64 < cLine := by have := hr.un; omega
  have hu65 : (A.deeper (envOfC "check_wishes" (defScope s_check_wishes) s.heap.objs.size f cdv)).units + 65 < cLine := by have := hr.un; omega
  exact (qq_cons (qs_if (st_not (st_tru (s_isi x.f_isinstance x.f_list (s_var 1)))) (qq_one (qs_raise 0 z.z_NoWish hr s_int hc tk)) qq_nil) (qq_cons (qs_for (i_enum (sk .u (s_sl (s_var 1) so_none (so_some (s_glob x.c_MOST_WISHES)))) x.f_enumerate) (sg_tup hc (sg_cons (sg_name 2 hN) (sg_cons (sg_name 3 hN) sg_nil)) (g1_len (g1_len g0_len))) (qq_one (qs_if (st_not (st_tru (s_callD d_is_wish hr (sa_cons (s_var 0) (sa_cons (s_var 3) sa_nil))))) (qq_one (qs_raise 0 z.z_NoWish hr (s_var 2) hc tk)) qq_nil))) (qq_one (qs_if (st_cmp op_gt fl_cp (s_call call_len fl_len x.f_len (sa_cons (s_var 1) sa_nil)) (s_glob x.c_MOST_WISHES)) (qq_one (qs_raise 0 z.z_NoWish hr (s_glob x.c_MOST_WISHES) hc tk)) qq_nil))))
theorem ok_check_wishes {P : Program} {w : World} {K : PySem.W.Frag} {mg : Str → Option Value} {base : Heap} {xc : Nat → Addr} {f : Addr} {fd : FuncData} (x : Fx P w K mg) (z : Zx P w K mg base xc) (d_is_wish : Df P w K mg base xc 4 "is_wish" ["rows", "wish"] [.fz, .fz] .u f_is_wish []) (F : FunD K "check_wishes" "check_wishes" (defArgs s_check_wishes) (defBody s_check_wishes) (defScope s_check_wishes) [] [] f fd) :
    FnOk P w K mg base (L2.CX P w) 5 f fd ["rows", "wishes"] (spD K xc [.fz, .fz] .u f_check_wishes) :=
  df_ok (Γl := [.fz, .fz]) F sc_check_wishes rfl rfl (.inl rfl) fun cdv A outer s H E hr => bo_check_wishes x z d_is_wish f cdv A outer s H E hr
theorem df_check_wishes {P : Program} {w : World} {K : PySem.W.Frag} {mg : Str → Option Value} {base : Heap} {xc : Nat → Addr} {f : Addr} {fd : FuncData} (x : Fx P w K mg) (z : Zx P w K mg base xc) (d_is_wish : Df P w K mg base xc 4 "is_wish" ["rows", "wish"] [.fz, .fz] .u f_is_wish []) (F : FunD K "check_wishes" "check_wishes" (defArgs s_check_wishes) (defBody s_check_wishes) (defScope s_check_wishes) [] [] f fd) (kp : PySem.W.keepIn K (.ref f) = true) (hm : mg "check_wishes" = some (.ref f)) :
    Df P w K mg base xc 5 "check_wishes" ["rows", "wishes"] [.fz, .fz] .u f_check_wishes [] :=
  ⟨f, fd, [], hm, ok_check_wishes x z d_is_wish F, kp, F.bindsN (fun _ _ _ _ _ _ us hl => match us, hl with | [_, _], _ => rfl), .nil, rfl⟩
/-! ### end_of_walk -/
abbrev s_end_of_walk : Stmt := top 22
noncomputable def l0_end_of_walk : SE := (q1 (qDo (popE 3) (Py.put 5)) (q1 (qIf (tb (b2 (b2 (vr 1) (vr 5) ixD) (c0 .non) (isN true)) asB) (qRt (p2i (b2 (vr 1) (vr 5) ixD))) q0) (qIf (tb (b2 (vr 5) (vr 4) dnotinD) asB) (q1 (qDo (p2i (c0 (.bl true))) fun d env => ((vr 5) env).bind fun j => onD 4 j d env) (qEx 3 (p2i (bA (Py.a1 (vr 0) (Py.a1 (vr 5) a0)) (cD f_ways_of []))))) q0)))
noncomputable def b_end_of_walk : SE := (q1 (qDo (p2i (bA (Py.a1 (vr 2) a0) lstD)) (Py.put 3)) (q1 (qDo (p2i dnwF) (Py.put 4)) (q1 (qWh (tb (b2 (vr 3) (bA a0 lstD) neD) asB) l0_end_of_walk) (qRt (p2i (c0 .non))))))
theorem sc_end_of_walk : FnScope ["new", "leads", "start", "asked", "seen", "number"] ["new", "leads", "start"] (defScope s_end_of_walk) := ⟨rfl, rfl, rfl, by decide +kernel, rfl, by decide +kernel, by decide +kernel⟩
noncomputable def f_end_of_walk : DF := mkF [.fz, .fz, .fz] 3 b_end_of_walk
theorem bo_end_of_walk {P : Program} {w : World} {K : PySem.W.Frag} {mg : Str → Option Value} {base : Heap} {xc : Nat → Addr} (x : Fx P w K mg) (z : Zx P w K mg base xc) (d_ways_of : Df P w K mg base xc 2 "ways_of" ["rows", "r"] [.fz, .fz] (.nw (.li .fz)) f_ways_of []) (f : Addr) (cdv : Value) (A : Around) (outer : List Env) (s : Shared) (H : Hp) (E : XK) (hr : Room 2 (A.deeper (envOfC "end_of_walk" (defScope s_end_of_walk) s.heap.objs.size f cdv))) :
    SSs (cxOf (L2.CX P w) P w K mg base ["new", "leads", "start", "asked", "seen", "number"] "end_of_walk" (defScope s_end_of_walk) f cdv A outer s H E) xc (fun cls d _ H => E cls d H) 3 ([.fz, .fz, .fz] ++ [(.li .fz), (.dk .fz), .fz]) .u (defBody s_end_of_walk) b_end_of_walk := by
  have tk := takes_of (X := cxOf (L2.CX P w) P w K mg base ["new", "leads", "start", "asked", "seen", "number"] "end_of_walk" (defScope s_end_of_walk) f cdv A outer s H E) (E := E) rfl rfl rfl rfl
  have hN := sc_end_of_walk.nd
  have hc : (cxOf (L2.CX P w) P w K mg base ["new", "leads", "start", "asked", "seen", "number"] "end_of_walk" (defScope s_end_of_walk) f cdv A outer s H E).calm = true := rfl
  have hu1 : (A.deeper (envOfC "end_of_walk" (defScope s_end_of_walk) s.heap.objs.size f cdv)).units + 1 < cLine := by have := hr.un; omega
  have hu : (A.deeper (envOfC "end_of_walk" (defScope s_end_of_walk) s.heap.objs.size f cdv)).units + 64 < cLine := by have := hr.un; omega
  have hu65 : (A.deeper (envOfC "end_of_walk" (defScope s_end_of_walk) s.heap.objs.size f cdv)).units + 65 < cLine := by have := hr.un; omega
  exact (qq_cons (qs_setO 3 (si_p (sk (.nw (.li .fz)) (s_lst (sa_cons (s_var 2) sa_nil)))) hN) (qq_cons (qs_setO 4 (si_p s_dnew) hN) (qq_cons (qs_while (st_cmp (op_neD hu) fl_ne (s_vw 3) (sk (.nw (.li .fz)) (s_lst sa_nil))) (qq_cons (qs_set 5 (si_pop 3) hN) (qq_cons (qs_if (st_cmp op_notN fl_notN (sk .u (s_ix (s_var 1) (s_var 5))) s_non) (qq_one (qs_ret (si_p (sk .u (s_ix (s_var 1) (s_var 5)))))) qq_nil) (qq_one (qs_if (st_cmp (op_dnotin hu1) fl_dnotin (s_var 5) (s_vw 4)) (qq_cons (qs_dput 4 hu1 (si_p s_bl) (s_var 5)) (qq_one (qs_extend 3 (si_p (s_callD d_ways_of hr (sa_cons (s_var 0) (sa_cons (s_var 5) sa_nil))))))) qq_nil))))) (qq_one (qs_ret (si_p s_non))))))
theorem ok_end_of_walk {P : Program} {w : World} {K : PySem.W.Frag} {mg : Str → Option Value} {base : Heap} {xc : Nat → Addr} {f : Addr} {fd : FuncData} (x : Fx P w K mg) (z : Zx P w K mg base xc) (d_ways_of : Df P w K mg base xc 2 "ways_of" ["rows", "r"] [.fz, .fz] (.nw (.li .fz)) f_ways_of []) (F : FunD K "end_of_walk" "end_of_walk" (defArgs s_end_of_walk) (defBody s_end_of_walk) (defScope s_end_of_walk) [] [] f fd) :
    FnOk P w K mg base (L2.CX P w) 3 f fd ["new", "leads", "start"] (spD K xc [.fz, .fz, .fz] .u f_end_of_walk) :=
  df_ok (Γl := [(.li .fz), (.dk .fz), .fz]) F sc_end_of_walk rfl rfl (.inl rfl) fun cdv A outer s H E hr => bo_end_of_walk x z d_ways_of f cdv A outer s H E hr
theorem df_end_of_walk {P : Program} {w : World} {K : PySem.W.Frag} {mg : Str → Option Value} {base : Heap} {xc : Nat → Addr} {f : Addr} {fd : FuncData} (x : Fx P w K mg) (z : Zx P w K mg base xc) (d_ways_of : Df P w K mg base xc 2 "ways_of" ["rows", "r"] [.fz, .fz] (.nw (.li .fz)) f_ways_of []) (F : FunD K "end_of_walk" "end_of_walk" (defArgs s_end_of_walk) (defBody s_end_of_walk) (defScope s_end_of_walk) [] [] f fd) (kp : PySem.W.keepIn K (.ref f) = true) (hm : mg "end_of_walk" = some (.ref f)) :
    Df P w K mg base xc 3 "end_of_walk" ["new", "leads", "start"] [.fz, .fz, .fz] .u f_end_of_walk [] :=
  ⟨f, fd, [], hm, ok_end_of_walk x z d_ways_of F, kp, F.bindsN (fun _ _ _ _ _ _ us hl => match us, hl with | [_, _, _], _ => rfl), .nil, rfl⟩
/-! ### standing -/
abbrev s_standing : Stmt := top 23
noncomputable def l0_standing : SE := (qIf (tb (b2 (vr 3) (c0 .non) (isN true)) asB) (qDo (p2i (vr 2)) fun d env => ((vr 3) env).bind fun j => onD 1 j d env) q0)
noncomputable def b_standing : SE := (q1 (qDo (p2i dnwF) (Py.put 1)) (q1 (qFor (itD (vr 0) enD) (gT (g1 (Py.put 2) (g1 (Py.put 3) g0))) l0_standing) (qRt (mv 1))))
theorem sc_standing : FnScope ["leads", "found", "number", "old"] ["leads"] (defScope s_standing) := ⟨rfl, rfl, rfl, by decide +kernel, rfl, by decide +kernel, by decide +kernel⟩
noncomputable def f_standing : DF := mkF [.fz] 3 b_standing
theorem bo_standing {P : Program} {w : World} {K : PySem.W.Frag} {mg : Str → Option Value} {base : Heap} {xc : Nat → Addr} (x : Fx P w K mg) (z : Zx P w K mg base xc) (f : Addr) (cdv : Value) (A : Around) (outer : List Env) (s : Shared) (H : Hp) (E : XK) (hr : Room 0 (A.deeper (envOfC "standing" (defScope s_standing) s.heap.objs.size f cdv))) :
    SSs (cxOf (L2.CX P w) P w K mg base ["leads", "found", "number", "old"] "standing" (defScope s_standing) f cdv A outer s H E) xc (fun cls d _ H => E cls d H) 1 ([.fz] ++ [(.dk .fz), .fz, .fz]) (.nw (.dk .fz)) (defBody s_standing) b_standing := by
  have tk := takes_of (X := cxOf (L2.CX P w) P w K mg base ["leads", "found", "number", "old"] "standing" (defScope s_standing) f cdv A outer s H E) (E := E) rfl rfl rfl rfl
  have hN := sc_standing.nd
  have hc : (cxOf (L2.CX P w) P w K mg base ["leads", "found", "number", "old"] "standing" (defScope s_standing) f cdv A outer s H E).calm = true := rfl
  have hu1 : (A.deeper (envOfC "standing" (defScope s_standing) s.heap.objs.size f cdv)).units + 1 < cLine := by have := hr.un; omega
  have hu : (A.deeper (envOfC "standing" (defScope s_standing) s.heap.objs.size f cdv)).units + 64 < cLine := by have := hr.un; omega
  have hu65 : (A.deeper (envOfC "standing" (defScope s_standing) s.heap.objs.size f cdv)).units + 65 < cLine := by have := hr.un; omega
  exact (qq_cons (qs_setO 1 (si_p s_dnew) hN) (qq_cons (qs_for (i_enum (s_var 0) x.f_enumerate) (sg_tup hc (sg_cons (sg_name 2 hN) (sg_cons (sg_name 3 hN) sg_nil)) (g1_len (g1_len g0_len))) (qq_one (qs_if (st_cmp op_notN fl_notN (s_var 3) s_non) (qq_one (qs_dput 1 hu1 (si_p (s_var 2)) (s_var 3))) qq_nil))) (qq_one (qs_ret (si_mv 1)))))
theorem ok_standing {P : Program} {w : World} {K : PySem.W.Frag} {mg : Str → Option Value} {base : Heap} {xc : Nat → Addr} {f : Addr} {fd : FuncData} (x : Fx P w K mg) (z : Zx P w K mg base xc) (F : FunD K "standing" "standing" (defArgs s_standing) (defBody s_standing) (defScope s_standing) [] [] f fd) :
    FnOk P w K mg base (L2.CX P w) 1 f fd ["leads"] (spD K xc [.fz] (.nw (.dk .fz)) f_standing) :=
  df_ok (Γl := [(.dk .fz), .fz, .fz]) F sc_standing rfl rfl (.inr (nnx_q1 (nnx_q1 nnx_rt))) fun cdv A outer s H E hr => bo_standing x z f cdv A outer s H E hr
theorem df_standing {P : Program} {w : World} {K : PySem.W.Frag} {mg : Str → Option Value} {base : Heap} {xc : Nat → Addr} {f : Addr} {fd : FuncData} (x : Fx P w K mg) (z : Zx P w K mg base xc) (F : FunD K "standing" "standing" (defArgs s_standing) (defBody s_standing) (defScope s_standing) [] [] f fd) (kp : PySem.W.keepIn K (.ref f) = true) (hm : mg "standing" = some (.ref f)) :
    Df P w K mg base xc 1 "standing" ["leads"] [.fz] (.nw (.dk .fz)) f_standing [] :=
  ⟨f, fd, [], hm, ok_standing x z F, kp, F.bindsN (fun _ _ _ _ _ _ us hl => match us, hl with | [_], _ => rfl), .nil, rfl⟩
/-! ### places_led -/
abbrev s_places_led : Stmt := top 24
noncomputable def l0_places_led : SE := (qIf (tb (b2 (bA (Py.a1 (vr 1) (Py.a1 (vr 4) (Py.a1 (vr 7) a0))) (cD f_end_of_walk [])) (b2 (vr 3) (c0 (.int 2)) ixD) eqD) asB) (qAp 6 (p2i (bA (Py.a1 (c0 (.str "way")) (Py.a1 (vr 5) (Py.a1 (vr 7) a0))) tupD))) q0)
noncomputable def b_places_led : SE := (q1 (qDo (iaC (ia1 (p2i (vr 0)) (ia1 (p2i (bA (Py.a1 (bA (Py.a1 (vr 3) (Py.a1 (bA (Py.a1 (c0 (.str "count")) (Py.a1 (c0 (.int 0)) a0)) tupD) a0)) tupD) a0) lstD)) ia0)) f_check_wishes []) fun _ env => some env) (q1 (qDo (p2i (b2 (vr 2) (c0 (.str "leads")) dixD)) (Py.put 4)) (q1 (qDo (p2i (b2 (bA (Py.a1 (vr 4) a0) (cD f_standing [])) (b2 (vr 3) (c0 (.int 1)) ixD) dixD)) (Py.put 5)) (q1 (qIf (tb (b2 (b2 (vr 3) (c0 (.int 0)) ixD) (c0 (.str "way")) neD) asB) (qRt (p2i (bA (Py.a1 (bA (Py.a1 (b2 (vr 3) (c0 (.int 0)) ixD) (Py.a1 (vr 5) a0)) tupD) a0) lstD))) q0) (q1 (qDo (p2i (bA a0 lstD)) (Py.put 6)) (q1 (qFor (itD (bA (Py.a1 (vr 1) (Py.a1 (vr 5) a0)) (cD f_ways_of [])) asS) (Py.put 7) l0_places_led) (qRt (mv 6))))))))
theorem sc_places_led : FnScope ["old", "new", "paper", "place", "leads", "number", "found", "later"] ["old", "new", "paper", "place"] (defScope s_places_led) := ⟨rfl, rfl, rfl, by decide +kernel, rfl, by decide +kernel, by decide +kernel⟩
noncomputable def f_places_led : DF := mkF [.fz, .fz, .fz, .fz] 4 b_places_led
theorem bo_places_led {P : Program} {w : World} {K : PySem.W.Frag} {mg : Str → Option Value} {base : Heap} {xc : Nat → Addr} (x : Fx P w K mg) (z : Zx P w K mg base xc) (d_check_wishes : Df P w K mg base xc 5 "check_wishes" ["rows", "wishes"] [.fz, .fz] .u f_check_wishes []) (d_standing : Df P w K mg base xc 1 "standing" ["leads"] [.fz] (.nw (.dk .fz)) f_standing []) (d_ways_of : Df P w K mg base xc 2 "ways_of" ["rows", "r"] [.fz, .fz] (.nw (.li .fz)) f_ways_of []) (d_end_of_walk : Df P w K mg base xc 3 "end_of_walk" ["new", "leads", "start"] [.fz, .fz, .fz] .u f_end_of_walk []) (f : Addr) (cdv : Value) (A : Around) (outer : List Env) (s : Shared) (H : Hp) (E : XK) (hr : Room 5 (A.deeper (envOfC "places_led" (defScope s_places_led) s.heap.objs.size f cdv))) :
    SSs (cxOf (L2.CX P w) P w K mg base ["old", "new", "paper", "place", "leads", "number", "found", "later"] "places_led" (defScope s_places_led) f cdv A outer s H E) xc (fun cls d _ H => E cls d H) 4 ([.fz, .fz, .fz, .fz] ++ [.fz, .fz, (.li .fz), .fz]) (.nw (.li .fz)) (defBody s_places_led) b_places_led := by
  have tk := takes_of (X := cxOf (L2.CX P w) P w K mg base ["old", "new", "paper", "place", "leads", "number", "found", "later"] "places_led" (defScope s_places_led) f cdv A outer s H E) (E := E) rfl rfl rfl rfl
  have hN := sc_places_led.nd
  have hc : (cxOf (L2.CX P w) P w K mg base ["old", "new", "paper", "place", "leads", "number", "found", "later"] "places_led" (defScope s_places_led) f cdv A outer s H E).calm = true := rfl
  have hu1 : (A.deeper (envOfC "places_led" (defScope s_places_led) s.heap.objs.size f cdv)).units + 1 < cLine := by have := hr.un; omega
  have hu : (A.deeper (envOfC "places_led" (defScope s_places_led) s.heap.objs.size f cdv)).units + 64 < cLine := by have := hr.un; omega
  have hu65 : (A.deeper (envOfC "places_led" (defScope s_places_led) s.heap.objs.size f cdv)).units + 65 < cLine := by have := hr.un; omega
  exact (qq_cons (qs_drop (si_callD d_check_wishes hr tk (sia_cons (si_p (s_var 0)) (sia_cons (si_p (sk (.nw (.li .fz)) (s_lst (sa_cons (sk .u (s_tup (sa_cons (s_var 3) (sa_cons (sk .u (s_tup (sa_cons s_str (sa_cons s_int sa_nil)))) sa_nil)))) sa_nil)))) sia_nil)) (fun env ds e h => by rw [(ia1_len (ia1_len ia0_len)) env ds e h] <;> rfl))) (qq_cons (qs_set 4 (si_p (sk .u (s_dix hu1 (s_var 2) s_str))) hN) (qq_cons (qs_set 5 (si_p (sk .u (s_dix hu1 (s_callD d_standing hr (sa_cons (s_var 4) sa_nil)) (sk .u (s_ix (s_var 3) s_int))))) hN) (qq_cons (qs_if (st_cmp (op_neD hu) fl_ne (sk .u (s_ix (s_var 3) s_int)) s_str) (qq_one (qs_ret (si_p (sk (.nw (.li .fz)) (s_lst (sa_cons (sk .u (s_tup (sa_cons (sk .u (s_ix (s_var 3) s_int)) (sa_cons (s_var 5) sa_nil)))) sa_nil)))))) qq_nil) (qq_cons (qs_setO 6 (si_p (sk (.nw (.li .fz)) (s_lst sa_nil))) hN) (qq_cons (qs_for (i_seq (s_callD d_ways_of hr (sa_cons (s_var 1) (sa_cons (s_var 5) sa_nil)))) (sg_name 7 hN) (qq_one (qs_if (st_cmp (op_eqD hu) fl_eq (s_callD d_end_of_walk hr (sa_cons (s_var 1) (sa_cons (s_var 4) (sa_cons (s_var 7) sa_nil)))) (sk .u (s_ix (s_var 3) s_int))) (qq_one (qs_append 6 (si_p (sk .u (s_tup (sa_cons s_str (sa_cons (s_var 5) (sa_cons (s_var 7) sa_nil)))))))) qq_nil))) (qq_one (qs_ret (si_mv 6)))))))))
theorem ok_places_led {P : Program} {w : World} {K : PySem.W.Frag} {mg : Str → Option Value} {base : Heap} {xc : Nat → Addr} {f : Addr} {fd : FuncData} (x : Fx P w K mg) (z : Zx P w K mg base xc) (d_check_wishes : Df P w K mg base xc 5 "check_wishes" ["rows", "wishes"] [.fz, .fz] .u f_check_wishes []) (d_standing : Df P w K mg base xc 1 "standing" ["leads"] [.fz] (.nw (.dk .fz)) f_standing []) (d_ways_of : Df P w K mg base xc 2 "ways_of" ["rows", "r"] [.fz, .fz] (.nw (.li .fz)) f_ways_of []) (d_end_of_walk : Df P w K mg base xc 3 "end_of_walk" ["new", "leads", "start"] [.fz, .fz, .fz] .u f_end_of_walk []) (F : FunD K "places_led" "places_led" (defArgs s_places_led) (defBody s_places_led) (defScope s_places_led) [] [] f fd) :
    FnOk P w K mg base (L2.CX P w) 6 f fd ["old", "new", "paper", "place"] (spD K xc [.fz, .fz, .fz, .fz] (.nw (.li .fz)) f_places_led) :=
  df_ok (Γl := [.fz, .fz, (.li .fz), .fz]) F sc_places_led rfl rfl (.inr (nnx_q1 (nnx_q1 (nnx_q1 (nnx_q1 (nnx_q1 (nnx_q1 nnx_rt))))))) fun cdv A outer s H E hr => bo_places_led x z d_check_wishes d_standing d_ways_of d_end_of_walk f cdv A outer s H E hr
theorem df_places_led {P : Program} {w : World} {K : PySem.W.Frag} {mg : Str → Option Value} {base : Heap} {xc : Nat → Addr} {f : Addr} {fd : FuncData} (x : Fx P w K mg) (z : Zx P w K mg base xc) (d_check_wishes : Df P w K mg base xc 5 "check_wishes" ["rows", "wishes"] [.fz, .fz] .u f_check_wishes []) (d_standing : Df P w K mg base xc 1 "standing" ["leads"] [.fz] (.nw (.dk .fz)) f_standing []) (d_ways_of : Df P w K mg base xc 2 "ways_of" ["rows", "r"] [.fz, .fz] (.nw (.li .fz)) f_ways_of []) (d_end_of_walk : Df P w K mg base xc 3 "end_of_walk" ["new", "leads", "start"] [.fz, .fz, .fz] .u f_end_of_walk []) (F : FunD K "places_led" "places_led" (defArgs s_places_led) (defBody s_places_led) (defScope s_places_led) [] [] f fd) (kp : PySem.W.keepIn K (.ref f) = true) (hm : mg "places_led" = some (.ref f)) :
    Df P w K mg base xc 6 "places_led" ["old", "new", "paper", "place"] [.fz, .fz, .fz, .fz] (.nw (.li .fz)) f_places_led [] :=
  ⟨f, fd, [], hm, ok_places_led x z d_check_wishes d_standing d_ways_of d_end_of_walk F, kp, F.bindsN (fun _ _ _ _ _ _ us hl => match us, hl with | [_, _, _, _], _ => rfl), .nil, rfl⟩
/-! ### _law_cell_at -/
abbrev s__law_cell_at : Stmt := top 26
noncomputable def b__law_cell_at : SE := (q1 (qIf (tb (b2 (vr 1) (bA (Py.a1 (vr 0) a0) lenD) ltI) asB) (qRt (p2i (b2 (vr 0) (vr 1) ixD))) q0) (qRt (p2i (c0 (.int 0)))))
theorem sc__law_cell_at : FnScope ["_law_script", "_law_k"] ["_law_script", "_law_k"] (defScope s__law_cell_at) := ⟨rfl, rfl, rfl, by decide +kernel, rfl, by decide +kernel, by decide +kernel⟩
noncomputable def f__law_cell_at : DF := mkF [.fz, .fz] 0 b__law_cell_at
theorem bo__law_cell_at {P : Program} {w : World} {K : PySem.W.Frag} {mg : Str → Option Value} {base : Heap} {xc : Nat → Addr} (x : Fx P w K mg) (z : Zx P w K mg base xc) (f : Addr) (cdv : Value) (A : Around) (outer : List Env) (s : Shared) (H : Hp) (E : XK) (hr : Room 0 (A.deeper (envOfC "_law_cell_at" (defScope s__law_cell_at) s.heap.objs.size f cdv))) :
    SSs (cxOf (L2.CX P w) P w K mg base ["_law_script", "_law_k"] "_law_cell_at" (defScope s__law_cell_at) f cdv A outer s H E) xc (fun cls d _ H => E cls d H) 2 ([.fz, .fz] ++ []) .u (defBody s__law_cell_at) b__law_cell_at := by
  have tk := takes_of (X := cxOf (L2.CX P w) P w K mg base ["_law_script", "_law_k"] "_law_cell_at" (defScope s__law_cell_at) f cdv A outer s H E) (E := E) rfl rfl rfl rfl
  have hN := sc__law_cell_at.nd
  have hc : (cxOf (L2.CX P w) P w K mg base ["_law_script", "_law_k"] "_law_cell_at" (defScope s__law_cell_at) f cdv A outer s H E).calm = true := rfl
  have hu1 : (A.deeper (envOfC "_law_cell_at" (defScope s__law_cell_at) s.heap.objs.size f cdv)).units + 1 < cLine := by have := hr.un; omega
  have hu : (A.deeper (envOfC "_law_cell_at" (defScope s__law_cell_at) s.heap.objs.size f cdv)).units + 64 < cLine := by have := hr.un; omega
  have hu65 : (A.deeper (envOfC "_law_cell_at" (defScope s__law_cell_at) s.heap.objs.size f cdv)).units + 65 < cLine := by have := hr.un; omega
  exact (qq_cons (qs_if (st_cmp op_lt fl_cp (s_var 1) (s_call call_len fl_len x.f_len (sa_cons (s_var 0) sa_nil))) (qq_one (qs_ret (si_p (sk .u (s_ix (s_var 0) (s_var 1)))))) qq_nil) (qq_one (qs_ret (si_p s_int))))
theorem ok__law_cell_at {P : Program} {w : World} {K : PySem.W.Frag} {mg : Str → Option Value} {base : Heap} {xc : Nat → Addr} {f : Addr} {fd : FuncData} (x : Fx P w K mg) (z : Zx P w K mg base xc) (F : FunD K "_law_cell_at" "_law_cell_at" (defArgs s__law_cell_at) (defBody s__law_cell_at) (defScope s__law_cell_at) [] [] f fd) :
    FnOk P w K mg base (L2.CX P w) 1 f fd ["_law_script", "_law_k"] (spD K xc [.fz, .fz] .u f__law_cell_at) :=
  df_ok (Γl := []) F sc__law_cell_at rfl rfl (.inl rfl) fun cdv A outer s H E hr => bo__law_cell_at x z f cdv A outer s H E hr
theorem df__law_cell_at {P : Program} {w : World} {K : PySem.W.Frag} {mg : Str → Option Value} {base : Heap} {xc : Nat → Addr} {f : Addr} {fd : FuncData} (x : Fx P w K mg) (z : Zx P w K mg base xc) (F : FunD K "_law_cell_at" "_law_cell_at" (defArgs s__law_cell_at) (defBody s__law_cell_at) (defScope s__law_cell_at) [] [] f fd) (kp : PySem.W.keepIn K (.ref f) = true) (hm : mg "_law_cell_at" = some (.ref f)) :
    Df P w K mg base xc 1 "_law_cell_at" ["_law_script", "_law_k"] [.fz, .fz] .u f__law_cell_at [] :=
  ⟨f, fd, [], hm, ok__law_cell_at x z F, kp, F.bindsN (fun _ _ _ _ _ _ us hl => match us, hl with | [_, _], _ => rfl), .nil, rfl⟩
/-! ### _law_program -/
abbrev s__law_program : Stmt := top 27
noncomputable def l0__law_program : SE := (q1 (qPl (vr 1) (fun env l => ((b2 (b2 (vr 2) (c0 (.int 8)) fdI) (b2 (bA (Py.a1 (vr 1) a0) lenD) (c0 (.int 1)) adD) mdI) env).bind fun j => ((vr 3) env).bind fun d => inD2 j d l) (pv 1)) (qDo (p2i (b2 (vr 2) (c0 (.int 8)) fdI)) (Py.put 2)))
noncomputable def b__law_program : SE := (q1 (qDo (p2i (lcF [2] (itD (b3 (vr 0) (oS (c0 (.int 3))) (oS (c0 (.int 12))) slD) asS) (Py.put 2) tyes (bA (Py.a1 (c0 (.str "set")) (Py.a1 (b2 (vr 2) (c0 (.int 8)) mdI) (Py.a1 (b2 (b2 (vr 2) (c0 (.int 8)) fdI) (c0 (.int 1000)) mdI) a0))) tupD))) (Py.put 1)) (q1 (qDo (p2i (bA (Py.a1 (vr 0) (Py.a1 (c0 (.int 0)) a0)) (cD f__law_cell_at []))) (Py.put 2)) (q1 (qFor (itD (bA (Py.a1 (bA (Py.a1 (c0 (.str "stop")) a0) tupD) (Py.a1 (bA (Py.a1 (c0 (.str "back")) a0) tupD) (Py.a1 (bA (Py.a1 (c0 (.str "jump")) (Py.a1 (c0 (.int 0)) (Py.a1 (c0 (.int 0)) a0))) tupD) (Py.a1 (bA (Py.a1 (c0 (.str "zero")) (Py.a1 (b2 (vr 2) (c0 (.int 8)) mdI) (Py.a1 (c0 (.int 1)) (Py.a1 (c0 (.int 1)) a0)))) tupD) a0)))) lstD) asS) (Py.put 3) l0__law_program) (q1 (qIf (tb (b2 (b2 (b2 (vr 1) (b1 (c0 (.int 1)) ngI) ixD) (c0 (.int 0)) ixD) (bA (Py.a1 (c0 (.str "set")) (Py.a1 (c0 (.str "zero")) a0)) tupD) (inD false)) asB) (qAp 1 (p2i (bA (Py.a1 (c0 (.str "stop")) a0) tupD))) q0) (qRt (mv 1))))))
theorem sc__law_program : FnScope ["_law_script", "_law_rows", "_law_cell", "_law_row"] ["_law_script"] (defScope s__law_program) := ⟨rfl, rfl, rfl, by decide +kernel, rfl, by decide +kernel, by decide +kernel⟩
noncomputable def f__law_program : DF := mkF [.fz] 3 b__law_program
theorem bo__law_program {P : Program} {w : World} {K : PySem.W.Frag} {mg : Str → Option Value} {base : Heap} {xc : Nat → Addr} (x : Fx P w K mg) (z : Zx P w K mg base xc) (d__law_cell_at : Df P w K mg base xc 1 "_law_cell_at" ["_law_script", "_law_k"] [.fz, .fz] .u f__law_cell_at []) (f : Addr) (cdv : Value) (A : Around) (outer : List Env) (s : Shared) (H : Hp) (E : XK) (hr : Room 1 (A.deeper (envOfC "_law_program" (defScope s__law_program) s.heap.objs.size f cdv))) :
    SSs (cxOf (L2.CX P w) P w K mg base ["_law_script", "_law_rows", "_law_cell", "_law_row"] "_law_program" (defScope s__law_program) f cdv A outer s H E) xc (fun cls d _ H => E cls d H) 1 ([.fz] ++ [(.li .fz), .fz, .fz]) (.nw (.li .fz)) (defBody s__law_program) b__law_program := by
  have tk := takes_of (X := cxOf (L2.CX P w) P w K mg base ["_law_script", "_law_rows", "_law_cell", "_law_row"] "_law_program" (defScope s__law_program) f cdv A outer s H E) (E := E) rfl rfl rfl rfl
  have hN := sc__law_program.nd
  have hc : (cxOf (L2.CX P w) P w K mg base ["_law_script", "_law_rows", "_law_cell", "_law_row"] "_law_program" (defScope s__law_program) f cdv A outer s H E).calm = true := rfl
  have hu1 : (A.deeper (envOfC "_law_program" (defScope s__law_program) s.heap.objs.size f cdv)).units + 1 < cLine := by have := hr.un; omega
  have hu : (A.deeper (envOfC "_law_program" (defScope s__law_program) s.heap.objs.size f cdv)).units + 64 < cLine := by have := hr.un; omega
  have hu65 : (A.deeper (envOfC "_law_program" (defScope s__law_program) s.heap.objs.size f cdv)).units + 65 < cLine := by have := hr.un; omega
  exact (qq_cons (qs_setLc 1 (own := [("_law_cell", 2)]) (i_seq (sk .u (s_sl (s_var 0) (so_some s_int) (so_some s_int)))) (blkB_ok (by kernel_rfl)) (fun s H C cl fp => (sg_name 2 hN)) (fun s H C cl fp => stl_nil) (fun s H C cl fp => (sk .u (s_tup (sa_cons s_str (sa_cons (s_bin op_mod fl_mod (s_var 2) s_int) (sa_cons (s_bin op_mod fl_mod (s_bin op_fdivW fl_fdiv (s_var 2) s_int) s_int) sa_nil)))))) hN (hΓ := hG (by rfl))) (qq_cons (qs_set 2 (si_p (s_callD d__law_cell_at hr (sa_cons (s_var 0) (sa_cons s_int sa_nil)))) hN) (qq_cons (qs_for (i_seq (sk (.nw (.li .fz)) (s_lst (sa_cons (sk .u (s_tup (sa_cons s_str sa_nil))) (sa_cons (sk .u (s_tup (sa_cons s_str sa_nil))) (sa_cons (sk .u (s_tup (sa_cons s_str (sa_cons s_int (sa_cons s_int sa_nil))))) (sa_cons (sk .u (s_tup (sa_cons s_str (sa_cons (s_bin op_mod fl_mod (s_var 2) s_int) (sa_cons s_int (sa_cons s_int sa_nil)))))) sa_nil))))))) (sg_name 3 hN) (qq_cons (qp_insert (pl_var 1) (s_bin op_mod fl_mod (s_bin op_fdivW fl_fdiv (s_var 2) s_int) (sk .u (s_add (s_call call_len fl_len x.f_len (sa_cons (s_vw 1) sa_nil)) s_int))) (s_var 3)) (qq_one (qs_set 2 (si_p (s_bin op_fdivW fl_fdiv (s_var 2) s_int)) hN)))) (qq_cons (qs_if (st_cmp (op_inAny hu65) fl_in (sk .u (s_ix (sk .u (s_ix (s_vw 1) (s_neg s_int))) s_int)) (sk .u (s_tup (sa_cons s_str (sa_cons s_str sa_nil))))) (qq_one (qs_append 1 (si_p (sk .u (s_tup (sa_cons s_str sa_nil)))))) qq_nil) (qq_one (qs_ret (si_mv 1)))))))
theorem ok__law_program {P : Program} {w : World} {K : PySem.W.Frag} {mg : Str → Option Value} {base : Heap} {xc : Nat → Addr} {f : Addr} {fd : FuncData} (x : Fx P w K mg) (z : Zx P w K mg base xc) (d__law_cell_at : Df P w K mg base xc 1 "_law_cell_at" ["_law_script", "_law_k"] [.fz, .fz] .u f__law_cell_at []) (F : FunD K "_law_program" "_law_program" (defArgs s__law_program) (defBody s__law_program) (defScope s__law_program) [] [] f fd) :
    FnOk P w K mg base (L2.CX P w) 2 f fd ["_law_script"] (spD K xc [.fz] (.nw (.li .fz)) f__law_program) :=
  df_ok (Γl := [(.li .fz), .fz, .fz]) F sc__law_program rfl rfl (.inr (nnx_q1 (nnx_q1 (nnx_q1 (nnx_q1 nnx_rt))))) fun cdv A outer s H E hr => bo__law_program x z d__law_cell_at f cdv A outer s H E hr
theorem df__law_program {P : Program} {w : World} {K : PySem.W.Frag} {mg : Str → Option Value} {base : Heap} {xc : Nat → Addr} {f : Addr} {fd : FuncData} (x : Fx P w K mg) (z : Zx P w K mg base xc) (d__law_cell_at : Df P w K mg base xc 1 "_law_cell_at" ["_law_script", "_law_k"] [.fz, .fz] .u f__law_cell_at []) (F : FunD K "_law_program" "_law_program" (defArgs s__law_program) (defBody s__law_program) (defScope s__law_program) [] [] f fd) (kp : PySem.W.keepIn K (.ref f) = true) (hm : mg "_law_program" = some (.ref f)) :
    Df P w K mg base xc 2 "_law_program" ["_law_script"] [.fz] (.nw (.li .fz)) f__law_program [] :=
  ⟨f, fd, [], hm, ok__law_program x z d__law_cell_at F, kp, F.bindsN (fun _ _ _ _ _ _ us hl => match us, hl with | [_], _ => rfl), .nil, rfl⟩
/-! ### _law_number -/
abbrev s__law_number : Stmt := top 28
noncomputable def b__law_number : SE := (qRt (p2i (b2 (lcF [2] (itA (Py.a1 (bA (Py.a1 (vr 0) a0) lenD) a0) rg1) (Py.put 2) (tb (b2 (b2 (b2 (vr 0) (vr 2) ixD) (c0 (.int 0)) ixD) (vr 1) eqD) asB) (vr 2)) (c0 (.int 0)) ixD)))
theorem sc__law_number : FnScope ["_law_rows", "_law_word", "_law_number_here"] ["_law_rows", "_law_word"] (defScope s__law_number) := ⟨rfl, rfl, rfl, by decide +kernel, rfl, by decide +kernel, by decide +kernel⟩
noncomputable def f__law_number : DF := mkF [.fz, .fz] 1 b__law_number
theorem bo__law_number {P : Program} {w : World} {K : PySem.W.Frag} {mg : Str → Option Value} {base : Heap} {xc : Nat → Addr} (x : Fx P w K mg) (z : Zx P w K mg base xc) (f : Addr) (cdv : Value) (A : Around) (outer : List Env) (s : Shared) (H : Hp) (E : XK) (hr : Room 0 (A.deeper (envOfC "_law_number" (defScope s__law_number) s.heap.objs.size f cdv))) :
    SSs (cxOf (L2.CX P w) P w K mg base ["_law_rows", "_law_word", "_law_number_here"] "_law_number" (defScope s__law_number) f cdv A outer s H E) xc (fun cls d _ H => E cls d H) 2 ([.fz, .fz] ++ [.fz]) .u (defBody s__law_number) b__law_number := by
  have tk := takes_of (X := cxOf (L2.CX P w) P w K mg base ["_law_rows", "_law_word", "_law_number_here"] "_law_number" (defScope s__law_number) f cdv A outer s H E) (E := E) rfl rfl rfl rfl
  have hN := sc__law_number.nd
  have hc : (cxOf (L2.CX P w) P w K mg base ["_law_rows", "_law_word", "_law_number_here"] "_law_number" (defScope s__law_number) f cdv A outer s H E).calm = true := rfl
  have hu1 : (A.deeper (envOfC "_law_number" (defScope s__law_number) s.heap.objs.size f cdv)).units + 1 < cLine := by have := hr.un; omega
  have hu : (A.deeper (envOfC "_law_number" (defScope s__law_number) s.heap.objs.size f cdv)).units + 64 < cLine := by have := hr.un; omega
  have hu65 : (A.deeper (envOfC "_law_number" (defScope s__law_number) s.heap.objs.size f cdv)).units + 65 < cLine := by have := hr.un; omega
  exact (qq_one (qs_ret (si_p (sk .u (s_ix (s_lc (own := [("_law_number_here", 2)]) (i_rng1 (sa_cons (s_call call_len fl_len x.f_len (sa_cons (s_var 0) sa_nil)) sa_nil) x.f_range) (blkB_ok (by kernel_rfl)) (fun s H C cl fp => (sg_name 2 hN)) (fun s H C cl fp => (stl_one (st_cmp (op_eqD hu) fl_eq (sk .u (s_ix (sk .u (s_ix (s_var 0) (s_var 2))) s_int)) (s_var 1)))) (fun s H C cl fp => (s_var 2)) hN (hΓ := hG (by rfl))) s_int)))))
theorem ok__law_number {P : Program} {w : World} {K : PySem.W.Frag} {mg : Str → Option Value} {base : Heap} {xc : Nat → Addr} {f : Addr} {fd : FuncData} (x : Fx P w K mg) (z : Zx P w K mg base xc) (F : FunD K "_law_number" "_law_number" (defArgs s__law_number) (defBody s__law_number) (defScope s__law_number) [] [] f fd) :
    FnOk P w K mg base (L2.CX P w) 1 f fd ["_law_rows", "_law_word"] (spD K xc [.fz, .fz] .u f__law_number) :=
  df_ok (Γl := [.fz]) F sc__law_number rfl rfl (.inl rfl) fun cdv A outer s H E hr => bo__law_number x z f cdv A outer s H E hr
theorem df__law_number {P : Program} {w : World} {K : PySem.W.Frag} {mg : Str → Option Value} {base : Heap} {xc : Nat → Addr} {f : Addr} {fd : FuncData} (x : Fx P w K mg) (z : Zx P w K mg base xc) (F : FunD K "_law_number" "_law_number" (defArgs s__law_number) (defBody s__law_number) (defScope s__law_number) [] [] f fd) (kp : PySem.W.keepIn K (.ref f) = true) (hm : mg "_law_number" = some (.ref f)) :
    Df P w K mg base xc 1 "_law_number" ["_law_rows", "_law_word"] [.fz, .fz] .u f__law_number [] :=
  ⟨f, fd, [], hm, ok__law_number x z F, kp, F.bindsN (fun _ _ _ _ _ _ us hl => match us, hl with | [_, _], _ => rfl), .nil, rfl⟩
/-! ### _law_none -/
abbrev s__law_none : Stmt := top 29
noncomputable def b__law_none : SE := (q1 (qDo (p2i (bA (Py.a1 (vr 0) (Py.a1 (c0 (.str "stop")) a0)) (cD f__law_number []))) (Py.put 2)) (q1 (qDo (p2i (bA (Py.a1 (vr 0) (Py.a1 (c0 (.str "back")) a0)) (cD f__law_number []))) (Py.put 3)) (q1 (qDo (p2i (bA (Py.a1 (vr 0) (Py.a1 (c0 (.str "jump")) a0)) (cD f__law_number []))) (Py.put 4)) (q1 (qDo (p2i (bA (Py.a1 (vr 0) (Py.a1 (c0 (.str "zero")) a0)) (cD f__law_number []))) (Py.put 5)) (q1 (qDo (p2i (bA (Py.a1 (vr 0) a0) lenD)) (Py.put 6)) (q1 (qDo (p2i (b2 (b2 (vr 1) (c0 (.int 39)) fdI) (vr 6) mdI)) (Py.put 7)) (q1 (qDo (p2i (bA (Py.a1 (c0 .non) (Py.a1 (vr 7) (Py.a1 (c0 (.str "before")) (Py.a1 (bA a0 tupD) (Py.a1 (bA (Py.a1 (c0 (.str "before")) a0) tupD) (Py.a1 (bA (Py.a1 (c0 (.str "before")) (Py.a1 (vr 7) a0)) lstD) (Py.a1 (bA (Py.a1 (c0 (.str "before")) (Py.a1 (vr 7) (Py.a1 (vr 7) a0))) tupD) (Py.a1 (bA (Py.a1 (c0 (.str "Before")) (Py.a1 (vr 7) a0)) tupD) (Py.a1 (bA (Py.a1 (c0 (.str "befor")) (Py.a1 (vr 7) a0)) tupD) (Py.a1 (bA (Py.a1 (vr 7) a0) tupD) a0)))))))))) lstD)) (Py.put 8)) (q1 (qDo (p2i (b2 (vr 8) (bA (Py.a1 (bA (Py.a1 (c0 (.str "before")) (Py.a1 (b1 (c0 (.int 1)) ngI) a0)) tupD) (Py.a1 (bA (Py.a1 (c0 (.str "before")) (Py.a1 (vr 6) a0)) tupD) (Py.a1 (bA (Py.a1 (c0 (.str "before")) (Py.a1 (c0 (.bl true)) a0)) tupD) (Py.a1 (bA (Py.a1 (c0 (.str "before")) (Py.a1 (c0 (.str "0")) a0)) tupD) (Py.a1 (bA (Py.a1 (c0 (.str "before")) (Py.a1 (c0 .non) a0)) tupD) (Py.a1 (bA (Py.a1 (c0 (.str "")) (Py.a1 (vr 7) a0)) tupD) a0)))))) lstD) caL)) (Py.put 8)) (q1 (qDo (p2i (b2 (vr 8) (bA (Py.a1 (bA (Py.a1 (c0 (.str "after")) (Py.a1 (vr 2) a0)) tupD) (Py.a1 (bA (Py.a1 (c0 (.str "after")) (Py.a1 (vr 3) a0)) tupD) (Py.a1 (bA (Py.a1 (c0 (.str "after")) (Py.a1 (vr 6) a0)) tupD) (Py.a1 (bA (Py.a1 (c0 (.str "after")) (Py.a1 (b1 (c0 (.int 1)) ngI) a0)) tupD) (Py.a1 (bA (Py.a1 (c0 (.str "after")) (Py.a1 (vr 5) (Py.a1 (c0 (.int 1)) a0))) tupD) (Py.a1 (bA (Py.a1 (c0 (.str "after")) a0) tupD) a0)))))) lstD) caL)) (Py.put 8)) (q1 (qDo (p2i (b2 (vr 8) (bA (Py.a1 (bA (Py.a1 (c0 (.str "after")) (Py.a1 (c0 (.bl false)) a0)) tupD) (Py.a1 (bA (Py.a1 (c0 (.str "after")) (Py.a1 (vr 4) a0)) lstD) (Py.a1 (bA (Py.a1 (c0 (.str "afters")) (Py.a1 (vr 4) a0)) tupD) (Py.a1 (bA (Py.a1 (c0 (.str "way")) (Py.a1 (vr 5) a0)) tupD) (Py.a1 (bA (Py.a1 (c0 (.str "way")) (Py.a1 (vr 5) (Py.a1 (b2 (b2 (vr 5) (c0 (.int 2)) adD) (vr 6) adD) a0))) tupD) a0))))) lstD) caL)) (Py.put 8)) (q1 (qDo (p2i (b2 (vr 8) (bA (Py.a1 (bA (Py.a1 (c0 (.str "way")) (Py.a1 (vr 2) (Py.a1 (c0 (.int 0)) a0))) tupD) (Py.a1 (bA (Py.a1 (c0 (.str "way")) (Py.a1 (vr 3) (Py.a1 (b2 (vr 3) (c0 (.int 1)) adD) a0))) tupD) (Py.a1 (bA (Py.a1 (c0 (.str "way")) (Py.a1 (vr 4) (Py.a1 (vr 6) a0))) tupD) (Py.a1 (bA (Py.a1 (c0 (.str "way")) (Py.a1 (vr 6) (Py.a1 (c0 (.int 0)) a0))) tupD) (Py.a1 (bA (Py.a1 (c0 (.str "way")) (Py.a1 (b1 (c0 (.int 1)) ngI) (Py.a1 (c0 (.int 0)) a0))) tupD) a0))))) lstD) caL)) (Py.put 8)) (q1 (qDo (p2i (b2 (vr 8) (bA (Py.a1 (bA (Py.a1 (c0 (.str "way")) (Py.a1 (vr 4) (Py.a1 (c0 (.bl false)) a0))) tupD) (Py.a1 (bA (Py.a1 (c0 (.str "way")) (Py.a1 (vr 5) (Py.a1 (c0 (.str "1")) a0))) tupD) (Py.a1 (bA (Py.a1 (c0 (.str "way")) (Py.a1 (vr 5) (Py.a1 (c0 (.int 1)) (Py.a1 (c0 (.int 1)) a0)))) tupD) (Py.a1 (bA (Py.a1 (c0 (.str "way")) (Py.a1 (vr 4) (Py.a1 (c0 (.int 0)) a0))) lstD) (Py.a1 (bA (Py.a1 (c0 (.str "way")) (Py.a1 (vr 4) (Py.a1 (b1 (c0 (.int 1)) ngI) a0))) tupD) a0))))) lstD) caL)) (Py.put 8)) (qRt (p2i (b2 (b2 (vr 8) (bA (Py.a1 (bA (Py.a1 (c0 (.str "way")) (Py.a1 (vr 4) (Py.a1 (c0 .non) a0))) tupD) (Py.a1 (bA (Py.a1 (c0 (.str "ways")) (Py.a1 (vr 4) (Py.a1 (c0 (.int 0)) a0))) tupD) a0)) lstD) caL) (b2 (vr 1) (c0 (.int 39)) mdI) ixD)))))))))))))))
theorem sc__law_none : FnScope ["_law_rows", "_law_cell", "_law_stop", "_law_back", "_law_jump", "_law_zero", "_law_many", "_law_r", "_law_some"] ["_law_rows", "_law_cell"] (defScope s__law_none) := ⟨rfl, rfl, rfl, by decide +kernel, rfl, by decide +kernel, by decide +kernel⟩
noncomputable def f__law_none : DF := mkF [.fz, .fz] 7 b__law_none
theorem bo__law_none {P : Program} {w : World} {K : PySem.W.Frag} {mg : Str → Option Value} {base : Heap} {xc : Nat → Addr} (x : Fx P w K mg) (z : Zx P w K mg base xc) (d__law_number : Df P w K mg base xc 1 "_law_number" ["_law_rows", "_law_word"] [.fz, .fz] .u f__law_number []) (f : Addr) (cdv : Value) (A : Around) (outer : List Env) (s : Shared) (H : Hp) (E : XK) (hr : Room 1 (A.deeper (envOfC "_law_none" (defScope s__law_none) s.heap.objs.size f cdv))) :
    SSs (cxOf (L2.CX P w) P w K mg base ["_law_rows", "_law_cell", "_law_stop", "_law_back", "_law_jump", "_law_zero", "_law_many", "_law_r", "_law_some"] "_law_none" (defScope s__law_none) f cdv A outer s H E) xc (fun cls d _ H => E cls d H) 2 ([.fz, .fz] ++ [.fz, .fz, .fz, .fz, .fz, .fz, .fz]) .u (defBody s__law_none) b__law_none := by
  have tk := takes_of (X := cxOf (L2.CX P w) P w K mg base ["_law_rows", "_law_cell", "_law_stop", "_law_back", "_law_jump", "_law_zero", "_law_many", "_law_r", "_law_some"] "_law_none" (defScope s__law_none) f cdv A outer s H E) (E := E) rfl rfl rfl rfl
  have hN := sc__law_none.nd
  have hc : (cxOf (L2.CX P w) P w K mg base ["_law_rows", "_law_cell", "_law_stop", "_law_back", "_law_jump", "_law_zero", "_law_many", "_law_r", "_law_some"] "_law_none" (defScope s__law_none) f cdv A outer s H E).calm = true := rfl
  have hu1 : (A.deeper (envOfC "_law_none" (defScope s__law_none) s.heap.objs.size f cdv)).units + 1 < cLine := by have := hr.un; omega
  have hu : (A.deeper (envOfC "_law_none" (defScope s__law_none) s.heap.objs.size f cdv)).units + 64 < cLine := by have := hr.un; omega
  have hu65 : (A.deeper (envOfC "_law_none" (defScope s__law_none) s.heap.objs.size f cdv)).units + 65 < cLine := by have := hr.un; omega
  exact (qq_cons (qs_set 2 (si_p (s_callD d__law_number hr (sa_cons (s_var 0) (sa_cons s_str sa_nil)))) hN) (qq_cons (qs_set 3 (si_p (s_callD d__law_number hr (sa_cons (s_var 0) (sa_cons s_str sa_nil)))) hN) (qq_cons (qs_set 4 (si_p (s_callD d__law_number hr (sa_cons (s_var 0) (sa_cons s_str sa_nil)))) hN) (qq_cons (qs_set 5 (si_p (s_callD d__law_number hr (sa_cons (s_var 0) (sa_cons s_str sa_nil)))) hN) (qq_cons (qs_set 6 (si_p (s_call call_len fl_len x.f_len (sa_cons (s_var 0) sa_nil))) hN) (qq_cons (qs_set 7 (si_p (s_bin op_mod fl_mod (s_bin op_fdivW fl_fdiv (s_var 1) s_int) (s_var 6))) hN) (qq_cons (qs_set 8 (SI.u (si_p (sk (.nw (.li .fz)) (s_lst (sa_cons s_non (sa_cons (s_var 7) (sa_cons s_str (sa_cons (sk .u (s_tup sa_nil)) (sa_cons (sk .u (s_tup (sa_cons s_str sa_nil))) (sa_cons (sk (.nw (.li .fz)) (s_lst (sa_cons s_str (sa_cons (s_var 7) sa_nil)))) (sa_cons (sk .u (s_tup (sa_cons s_str (sa_cons (s_var 7) (sa_cons (s_var 7) sa_nil))))) (sa_cons (sk .u (s_tup (sa_cons s_str (sa_cons (s_var 7) sa_nil)))) (sa_cons (sk .u (s_tup (sa_cons s_str (sa_cons (s_var 7) sa_nil)))) (sa_cons (sk .u (s_tup (sa_cons (s_var 7) sa_nil))) sa_nil))))))))))))) rfl) hN) (qq_cons (qs_set 8 (SI.u (si_p (sk (.nw (.li .fz)) (s_catL (s_var 8) (sk (.nw (.li .fz)) (s_lst (sa_cons (sk .u (s_tup (sa_cons s_str (sa_cons (s_neg s_int) sa_nil)))) (sa_cons (sk .u (s_tup (sa_cons s_str (sa_cons (s_var 6) sa_nil)))) (sa_cons (sk .u (s_tup (sa_cons s_str (sa_cons s_bl sa_nil)))) (sa_cons (sk .u (s_tup (sa_cons s_str (sa_cons s_str sa_nil)))) (sa_cons (sk .u (s_tup (sa_cons s_str (sa_cons s_non sa_nil)))) (sa_cons (sk .u (s_tup (sa_cons s_str (sa_cons (s_var 7) sa_nil)))) sa_nil))))))))))) rfl) hN) (qq_cons (qs_set 8 (SI.u (si_p (sk (.nw (.li .fz)) (s_catL (s_var 8) (sk (.nw (.li .fz)) (s_lst (sa_cons (sk .u (s_tup (sa_cons s_str (sa_cons (s_var 2) sa_nil)))) (sa_cons (sk .u (s_tup (sa_cons s_str (sa_cons (s_var 3) sa_nil)))) (sa_cons (sk .u (s_tup (sa_cons s_str (sa_cons (s_var 6) sa_nil)))) (sa_cons (sk .u (s_tup (sa_cons s_str (sa_cons (s_neg s_int) sa_nil)))) (sa_cons (sk .u (s_tup (sa_cons s_str (sa_cons (s_var 5) (sa_cons s_int sa_nil))))) (sa_cons (sk .u (s_tup (sa_cons s_str sa_nil))) sa_nil))))))))))) rfl) hN) (qq_cons (qs_set 8 (SI.u (si_p (sk (.nw (.li .fz)) (s_catL (s_var 8) (sk (.nw (.li .fz)) (s_lst (sa_cons (sk .u (s_tup (sa_cons s_str (sa_cons s_bl sa_nil)))) (sa_cons (sk (.nw (.li .fz)) (s_lst (sa_cons s_str (sa_cons (s_var 4) sa_nil)))) (sa_cons (sk .u (s_tup (sa_cons s_str (sa_cons (s_var 4) sa_nil)))) (sa_cons (sk .u (s_tup (sa_cons s_str (sa_cons (s_var 5) sa_nil)))) (sa_cons (sk .u (s_tup (sa_cons s_str (sa_cons (s_var 5) (sa_cons (sk .u (s_add (sk .u (s_add (s_var 5) s_int)) (s_var 6))) sa_nil))))) sa_nil)))))))))) rfl) hN) (qq_cons (qs_set 8 (SI.u (si_p (sk (.nw (.li .fz)) (s_catL (s_var 8) (sk (.nw (.li .fz)) (s_lst (sa_cons (sk .u (s_tup (sa_cons s_str (sa_cons (s_var 2) (sa_cons s_int sa_nil))))) (sa_cons (sk .u (s_tup (sa_cons s_str (sa_cons (s_var 3) (sa_cons (sk .u (s_add (s_var 3) s_int)) sa_nil))))) (sa_cons (sk .u (s_tup (sa_cons s_str (sa_cons (s_var 4) (sa_cons (s_var 6) sa_nil))))) (sa_cons (sk .u (s_tup (sa_cons s_str (sa_cons (s_var 6) (sa_cons s_int sa_nil))))) (sa_cons (sk .u (s_tup (sa_cons s_str (sa_cons (s_neg s_int) (sa_cons s_int sa_nil))))) sa_nil)))))))))) rfl) hN) (qq_cons (qs_set 8 (SI.u (si_p (sk (.nw (.li .fz)) (s_catL (s_var 8) (sk (.nw (.li .fz)) (s_lst (sa_cons (sk .u (s_tup (sa_cons s_str (sa_cons (s_var 4) (sa_cons s_bl sa_nil))))) (sa_cons (sk .u (s_tup (sa_cons s_str (sa_cons (s_var 5) (sa_cons s_str sa_nil))))) (sa_cons (sk .u (s_tup (sa_cons s_str (sa_cons (s_var 5) (sa_cons s_int (sa_cons s_int sa_nil)))))) (sa_cons (sk (.nw (.li .fz)) (s_lst (sa_cons s_str (sa_cons (s_var 4) (sa_cons s_int sa_nil))))) (sa_cons (sk .u (s_tup (sa_cons s_str (sa_cons (s_var 4) (sa_cons (s_neg s_int) sa_nil))))) sa_nil)))))))))) rfl) hN) (qq_one (qs_ret (si_p (sk .u (s_ix (sk (.nw (.li .fz)) (s_catL (s_var 8) (sk (.nw (.li .fz)) (s_lst (sa_cons (sk .u (s_tup (sa_cons s_str (sa_cons (s_var 4) (sa_cons s_non sa_nil))))) (sa_cons (sk .u (s_tup (sa_cons s_str (sa_cons (s_var 4) (sa_cons s_int sa_nil))))) sa_nil)))))) (s_bin op_mod fl_mod (s_var 1) s_int))))))))))))))))))
theorem ok__law_none {P : Program} {w : World} {K : PySem.W.Frag} {mg : Str → Option Value} {base : Heap} {xc : Nat → Addr} {f : Addr} {fd : FuncData} (x : Fx P w K mg) (z : Zx P w K mg base xc) (d__law_number : Df P w K mg base xc 1 "_law_number" ["_law_rows", "_law_word"] [.fz, .fz] .u f__law_number []) (F : FunD K "_law_none" "_law_none" (defArgs s__law_none) (defBody s__law_none) (defScope s__law_none) [] [] f fd) :
    FnOk P w K mg base (L2.CX P w) 2 f fd ["_law_rows", "_law_cell"] (spD K xc [.fz, .fz] .u f__law_none) :=
  df_ok (Γl := [.fz, .fz, .fz, .fz, .fz, .fz, .fz]) F sc__law_none rfl rfl (.inl rfl) fun cdv A outer s H E hr => bo__law_none x z d__law_number f cdv A outer s H E hr
theorem df__law_none {P : Program} {w : World} {K : PySem.W.Frag} {mg : Str → Option Value} {base : Heap} {xc : Nat → Addr} {f : Addr} {fd : FuncData} (x : Fx P w K mg) (z : Zx P w K mg base xc) (d__law_number : Df P w K mg base xc 1 "_law_number" ["_law_rows", "_law_word"] [.fz, .fz] .u f__law_number []) (F : FunD K "_law_none" "_law_none" (defArgs s__law_none) (defBody s__law_none) (defScope s__law_none) [] [] f fd) (kp : PySem.W.keepIn K (.ref f) = true) (hm : mg "_law_none" = some (.ref f)) :
    Df P w K mg base xc 2 "_law_none" ["_law_rows", "_law_cell"] [.fz, .fz] .u f__law_none [] :=
  ⟨f, fd, [], hm, ok__law_none x z d__law_number F, kp, F.bindsN (fun _ _ _ _ _ _ us hl => match us, hl with | [_, _], _ => rfl), .nil, rfl⟩
/-! ### _law_refused -/
abbrev s__law_refused : Stmt := top 30
def m0__law_refused : Nat → Option Bool := fun c => match c with | 0 => some true | _ => none
noncomputable def x0_0__law_refused (a : Addr) (od : Option Addr) : SE := (q1 (qDo (p2i (b1 (vr 6) (isE a od false))) (Py.put 7)) (qIf (tA (tb (b1 (vr 6) (isE a od true)) truD) (tA (tb (b1 (vr 6) (isE a od true)) truD) (tA (tN (tb (vr 7) truD)) (tN (tb (b1 (b1 (vr 6) (atE a od)) (isD "bool")) truD))))) (qDo (p2i (b1 (vr 6) (atE a od))) (Py.put 5)) q0))
noncomputable def s0__law_refused (a : Addr) (od : Option Addr) (c : Nat) : SE := match c with | 0 => x0_0__law_refused a od | _ => qN
noncomputable def l2__law_refused : SE := (qDo (iaC (ia1 (p2i (vr 0)) (ia1 (p2i (vr 1)) (ia1 (p2i (vr 2)) (ia1 (p2i (vr 3)) ia0)))) f_places_led []) fun _ env => some env)
noncomputable def l3__law_refused : SE := (q1 (qDo (p2i (c0 .non)) (Py.put 5)) (q1 (qTry 6 m0__law_refused l2__law_refused s0__law_refused) (qIf (tb (b2 (vr 5) (c0 (.int 0)) neD) asB) (qRt (p2i (c0 (.bl false)))) q0)))
noncomputable def b__law_refused : SE := (q1 (qFor (itA (Py.a1 (c0 (.int 2)) a0) rg1) (Py.put 4) l3__law_refused) (qRt (p2i (c0 (.bl true)))))
theorem sc__law_refused : FnScope ["_law_old", "_law_new", "_law_paper", "_law_place", "_law_turn", "_law_found", "e", "_law_others"] ["_law_old", "_law_new", "_law_paper", "_law_place"] (defScope s__law_refused) := ⟨rfl, rfl, rfl, by decide +kernel, rfl, by decide +kernel, by decide +kernel⟩
noncomputable def f__law_refused : DF := mkF [.fz, .fz, .fz, .fz] 4 b__law_refused
theorem bo__law_refused {P : Program} {w : World} {K : PySem.W.Frag} {mg : Str → Option Value} {base : Heap} {xc : Nat → Addr} (x : Fx P w K mg) (z : Zx P w K mg base xc) (d_places_led : Df P w K mg base xc 6 "places_led" ["old", "new", "paper", "place"] [.fz, .fz, .fz, .fz] (.nw (.li .fz)) f_places_led []) (f : Addr) (cdv : Value) (A : Around) (outer : List Env) (s : Shared) (H : Hp) (E : XK) (hr : Room 6 (A.deeper (envOfC "_law_refused" (defScope s__law_refused) s.heap.objs.size f cdv))) :
    SSs (cxOf (L2.CX P w) P w K mg base ["_law_old", "_law_new", "_law_paper", "_law_place", "_law_turn", "_law_found", "e", "_law_others"] "_law_refused" (defScope s__law_refused) f cdv A outer s H E) xc (fun cls d _ H => E cls d H) 4 ([.fz, .fz, .fz, .fz] ++ [.fz, .fz, .fz, .fz]) .u (defBody s__law_refused) b__law_refused := by
  have tk := takes_of (X := cxOf (L2.CX P w) P w K mg base ["_law_old", "_law_new", "_law_paper", "_law_place", "_law_turn", "_law_found", "e", "_law_others"] "_law_refused" (defScope s__law_refused) f cdv A outer s H E) (E := E) rfl rfl rfl rfl
  have hN := sc__law_refused.nd
  have hc : (cxOf (L2.CX P w) P w K mg base ["_law_old", "_law_new", "_law_paper", "_law_place", "_law_turn", "_law_found", "e", "_law_others"] "_law_refused" (defScope s__law_refused) f cdv A outer s H E).calm = true := rfl
  have hu1 : (A.deeper (envOfC "_law_refused" (defScope s__law_refused) s.heap.objs.size f cdv)).units + 1 < cLine := by have := hr.un; omega
  have hu : (A.deeper (envOfC "_law_refused" (defScope s__law_refused) s.heap.objs.size f cdv)).units + 64 < cLine := by have := hr.un; omega
  have hu65 : (A.deeper (envOfC "_law_refused" (defScope s__law_refused) s.heap.objs.size f cdv)).units + 65 < cLine := by have := hr.un; omega
  exact (qq_cons (qs_for (i_rng1 (sa_cons s_int sa_nil) x.f_range) (sg_name 4 hN) (qq_cons (qs_set 5 (si_p s_non) hN) (qq_cons (qs_try 6 (.ref (He.ga K "RowError")) (fun c v h => match c, h with | 0, h => by cases h; exact z.e_0_RowError | (n + 1), h => nomatch h) tk hN (fun W2 pn2 xe2 tk2 hp2 => (qq_one (qs_drop (si_callD d_places_led hr tk2 (sia_cons (si_p (s_var 0)) (sia_cons (si_p (s_var 1)) (sia_cons (si_p (s_var 2)) (sia_cons (si_p (s_var 3)) sia_nil)))) (fun env ds e h => by rw [(ia1_len (ia1_len (ia1_len (ia1_len ia0_len)))) env ds e h] <;> rfl))))) (fun c hc2 => match c, hc2 with | 0, _ => fun a od oe pn hz hf => (qq_cons (qs_set 7 (si_p (s_isET 6 (b := false) z.z_NoWish.ex hz hf (Cvs.cons (cv_own z.m_NoRows) (Cvs.cons (cv_own z.m_NoFree) (Cvs.cons (cv_own z.m_NoPaper) (Cvs.cons (cv_own z.m_TooMuch) (Cvs.cons (cv_own z.m_NoLine) Cvs.nil rfl) rfl) rfl) rfl) rfl) (kitA_no z.k_0_NoRows (kitA_no z.k_0_NoFree (kitA_no z.k_0_NoPaper (kitA_no z.k_0_TooMuch (kitA_no z.k_0_NoLine kitA_nil))))) x.f_isinstance)) hN) (qq_one (qs_if (SW.st (sw_and (st_tru (s_isE 6 z.z_NoWish.ex hz hf (cv_own z.m_NoWish) z.k_0_NoWish x.f_isinstance)) (sw_and (st_tru (s_isE 6 z.z_NoWish.ex hz hf (cv_ty x.f_ValueError) z.t_0 x.f_isinstance)) (sw_and (st_not (st_tru (s_var 7))) (sw_and1 (st_not (st_tru (s_isi x.f_isinstance x.f_bool (s_at 6 z.z_NoWish.ex hz hf))))))))) (qq_one (qs_set 5 (si_p (s_at 6 z.z_NoWish.ex hz hf)) hN)) qq_nil))) | (n + 1), h => nomatch h) ⟨rfl, by decide, .inl z.m_RowError⟩) (qq_one (qs_if (st_cmp (op_neD hu) fl_ne (s_var 5) s_int) (qq_one (qs_ret (si_p s_bl))) qq_nil))))) (qq_one (qs_ret (si_p s_bl))))
theorem ok__law_refused {P : Program} {w : World} {K : PySem.W.Frag} {mg : Str → Option Value} {base : Heap} {xc : Nat → Addr} {f : Addr} {fd : FuncData} (x : Fx P w K mg) (z : Zx P w K mg base xc) (d_places_led : Df P w K mg base xc 6 "places_led" ["old", "new", "paper", "place"] [.fz, .fz, .fz, .fz] (.nw (.li .fz)) f_places_led []) (F : FunD K "_law_refused" "_law_refused" (defArgs s__law_refused) (defBody s__law_refused) (defScope s__law_refused) [] [] f fd) :
    FnOk P w K mg base (L2.CX P w) 7 f fd ["_law_old", "_law_new", "_law_paper", "_law_place"] (spD K xc [.fz, .fz, .fz, .fz] .u f__law_refused) :=
  df_ok (Γl := [.fz, .fz, .fz, .fz]) F sc__law_refused rfl rfl (.inl rfl) fun cdv A outer s H E hr => bo__law_refused x z d_places_led f cdv A outer s H E hr
theorem df__law_refused {P : Program} {w : World} {K : PySem.W.Frag} {mg : Str → Option Value} {base : Heap} {xc : Nat → Addr} {f : Addr} {fd : FuncData} (x : Fx P w K mg) (z : Zx P w K mg base xc) (d_places_led : Df P w K mg base xc 6 "places_led" ["old", "new", "paper", "place"] [.fz, .fz, .fz, .fz] (.nw (.li .fz)) f_places_led []) (F : FunD K "_law_refused" "_law_refused" (defArgs s__law_refused) (defBody s__law_refused) (defScope s__law_refused) [] [] f fd) (kp : PySem.W.keepIn K (.ref f) = true) (hm : mg "_law_refused" = some (.ref f)) :
    Df P w K mg base xc 7 "_law_refused" ["_law_old", "_law_new", "_law_paper", "_law_place"] [.fz, .fz, .fz, .fz] .u f__law_refused [] :=
  ⟨f, fd, [], hm, ok__law_refused x z d_places_led F, kp, F.bindsN (fun _ _ _ _ _ _ us hl => match us, hl with | [_, _, _, _], _ => rfl), .nil, rfl⟩
/-! ### _law_turned -/
abbrev s__law_turned : Stmt := top 31
noncomputable def b__law_turned : SE := (q1 (qIf (tb (b2 (b2 (vr 0) (c0 (.int 0)) ixD) (bA (Py.a1 (c0 (.str "jump")) (Py.a1 (c0 (.str "zero")) a0)) tupD) (inD false)) asB) (qRt (p2i (b2 (b3 (vr 0) oN (oS (b1 (c0 (.int 1)) ngI)) slD) (bA (Py.a1 (b2 (c0 (.int 1)) (b2 (vr 0) (b1 (c0 (.int 1)) ngI) ixD) sbI) a0) tupD) adD))) q0) (qRt (p2i (vr 0))))
theorem sc__law_turned : FnScope ["_law_row"] ["_law_row"] (defScope s__law_turned) := ⟨rfl, rfl, rfl, by decide +kernel, rfl, by decide +kernel, by decide +kernel⟩
noncomputable def f__law_turned : DF := mkF [.fz] 0 b__law_turned
theorem bo__law_turned {P : Program} {w : World} {K : PySem.W.Frag} {mg : Str → Option Value} {base : Heap} {xc : Nat → Addr} (x : Fx P w K mg) (z : Zx P w K mg base xc) (f : Addr) (cdv : Value) (A : Around) (outer : List Env) (s : Shared) (H : Hp) (E : XK) (hr : Room 0 (A.deeper (envOfC "_law_turned" (defScope s__law_turned) s.heap.objs.size f cdv))) :
    SSs (cxOf (L2.CX P w) P w K mg base ["_law_row"] "_law_turned" (defScope s__law_turned) f cdv A outer s H E) xc (fun cls d _ H => E cls d H) 1 ([.fz] ++ []) .u (defBody s__law_turned) b__law_turned := by
  have tk := takes_of (X := cxOf (L2.CX P w) P w K mg base ["_law_row"] "_law_turned" (defScope s__law_turned) f cdv A outer s H E) (E := E) rfl rfl rfl rfl
  have hN := sc__law_turned.nd
  have hc : (cxOf (L2.CX P w) P w K mg base ["_law_row"] "_law_turned" (defScope s__law_turned) f cdv A outer s H E).calm = true := rfl
  have hu1 : (A.deeper (envOfC "_law_turned" (defScope s__law_turned) s.heap.objs.size f cdv)).units + 1 < cLine := by have := hr.un; omega
  have hu : (A.deeper (envOfC "_law_turned" (defScope s__law_turned) s.heap.objs.size f cdv)).units + 64 < cLine := by have := hr.un; omega
  have hu65 : (A.deeper (envOfC "_law_turned" (defScope s__law_turned) s.heap.objs.size f cdv)).units + 65 < cLine := by have := hr.un; omega
  exact (qq_cons (qs_if (st_cmp (op_inAny hu65) fl_in (sk .u (s_ix (s_var 0) s_int)) (sk .u (s_tup (sa_cons s_str (sa_cons s_str sa_nil))))) (qq_one (qs_ret (si_p (sk .u (s_add (sk .u (s_sl (s_var 0) so_none (so_some (s_neg s_int)))) (sk .u (s_tup (sa_cons (s_bin op_sub fl_sub s_int (sk .u (s_ix (s_var 0) (s_neg s_int)))) sa_nil)))))))) qq_nil) (qq_one (qs_ret (si_p (s_var 0)))))
theorem ok__law_turned {P : Program} {w : World} {K : PySem.W.Frag} {mg : Str → Option Value} {base : Heap} {xc : Nat → Addr} {f : Addr} {fd : FuncData} (x : Fx P w K mg) (z : Zx P w K mg base xc) (F : FunD K "_law_turned" "_law_turned" (defArgs s__law_turned) (defBody s__law_turned) (defScope s__law_turned) [] [] f fd) :
    FnOk P w K mg base (L2.CX P w) 1 f fd ["_law_row"] (spD K xc [.fz] .u f__law_turned) :=
  df_ok (Γl := []) F sc__law_turned rfl rfl (.inl rfl) fun cdv A outer s H E hr => bo__law_turned x z f cdv A outer s H E hr
theorem df__law_turned {P : Program} {w : World} {K : PySem.W.Frag} {mg : Str → Option Value} {base : Heap} {xc : Nat → Addr} {f : Addr} {fd : FuncData} (x : Fx P w K mg) (z : Zx P w K mg base xc) (F : FunD K "_law_turned" "_law_turned" (defArgs s__law_turned) (defBody s__law_turned) (defScope s__law_turned) [] [] f fd) (kp : PySem.W.keepIn K (.ref f) = true) (hm : mg "_law_turned" = some (.ref f)) :
    Df P w K mg base xc 1 "_law_turned" ["_law_row"] [.fz] .u f__law_turned [] :=
  ⟨f, fd, [], hm, ok__law_turned x z F, kp, F.bindsN (fun _ _ _ _ _ _ us hl => match us, hl with | [_], _ => rfl), .nil, rfl⟩
/-! ### law -/
abbrev s_law : Stmt := top 32
noncomputable def b_law : SE := (q1 (qDo (p2i (bA (Py.a1 (vr 0) a0) (cD f__law_program []))) (Py.put 1)) (q1 (qDo (p2i (lcF [10] (itD (vr 1) asS) (Py.put 10) tyes (bA (Py.a1 (vr 10) a0) (cD f__law_turned [])))) (Py.put 2)) (q1 (qDo (p2i (bA (Py.a1 (bA (Py.a1 (vr 1) a0) lenD) a0) lr1)) (Py.put 3)) (q1 (qDo (p2i (lcF [10] (itD (vr 1) asS) (Py.put 10) tyes (bA (Py.a1 (b2 (b2 (vr 10) (c0 (.int 0)) ixD) (c0 (.str "zero")) eqD) a0) intD))) (Py.put 4)) (q1 (qDo (p2i (dspF ["leads", "forms", "free", "counts"] (Py.a1 (vr 3) (Py.a1 (vr 4) (Py.a1 (b2 (bA (Py.a1 (bA a0 tupD) a0) lstD) (bA (Py.a1 (vr 1) a0) lenD) reL) (Py.a1 (bA a0 lstD) a0)))))) (Py.put 5)) (q1 (qDo (p2i (bA (Py.a1 (bA (Py.a1 (vr 1) a0) liD) (Py.a1 (bA (Py.a1 (vr 2) a0) liD) (Py.a1 (bA (Py.a1 (vr 3) a0) liD) (Py.a1 (bA (Py.a1 (vr 4) a0) liD) a0)))) lstD)) (Py.put 6)) (q1 (qDo (p2i (bA (Py.a1 (vr 1) (Py.a1 (bA (Py.a1 (vr 0) (Py.a1 (c0 (.int 1)) a0)) (cD f__law_cell_at [])) a0)) (cD f__law_none []))) (Py.put 7)) (q1 (qIf (tN (tb (bA (Py.a1 (vr 1) (Py.a1 (vr 2) (Py.a1 (vr 5) (Py.a1 (vr 7) a0)))) (cD f__law_refused [])) truD)) (qRt (p2i (c0 (.bl false)))) q0) (q1 (qDo (p2i (bA (Py.a1 (vr 1) (Py.a1 (c0 (.str "zero")) a0)) (cD f__law_number []))) (Py.put 8)) (q1 (qDo (p2i (b2 (bA (Py.a1 (bA (Py.a1 (c0 (.str "before")) (Py.a1 (c0 (.int 0)) a0)) tupD) (Py.a1 (bA (Py.a1 (c0 (.str "after")) (Py.a1 (vr 8) a0)) tupD) (Py.a1 (bA (Py.a1 (c0 (.str "way")) (Py.a1 (vr 8) (Py.a1 (c0 (.int 1)) a0))) tupD) (Py.a1 (bA (Py.a1 (c0 (.str "way")) (Py.a1 (vr 8) (Py.a1 (b2 (vr 8) (c0 (.int 1)) adD) a0))) tupD) a0)))) lstD) (b2 (bA (Py.a1 (vr 0) (Py.a1 (c0 (.int 2)) a0)) (cD f__law_cell_at [])) (c0 (.int 4)) mdI) ixD)) (Py.put 9)) (q1 (qIf (tb (b2 (bA (Py.a1 (vr 1) (Py.a1 (vr 2) (Py.a1 (vr 5) (Py.a1 (vr 9) a0)))) (cD f_places_led [])) (bA (Py.a1 (vr 9) a0) lstD) neD) asB) (qRt (p2i (c0 (.bl false)))) q0) (qRt (p2i (b2 (bA (Py.a1 (vr 1) (Py.a1 (vr 2) (Py.a1 (b2 (vr 5) (c0 (.str "leads")) dixD) (Py.a1 (b2 (vr 5) (c0 (.str "forms")) dixD) a0)))) lstD) (vr 6) eqD))))))))))))))
theorem sc_law : FnScope ["_law_script", "_law_old", "_law_new", "_law_leads", "_law_forms", "_law_paper", "_law_kept", "_law_place", "_law_zero", "_law_right", "_law_row"] ["_law_script"] (defScope s_law) := ⟨rfl, rfl, rfl, by decide +kernel, rfl, by decide +kernel, by decide +kernel⟩
noncomputable def f_law : DF := mkF [.fz] 10 b_law
theorem bo_law {P : Program} {w : World} {K : PySem.W.Frag} {mg : Str → Option Value} {base : Heap} {xc : Nat → Addr} (x : Fx P w K mg) (z : Zx P w K mg base xc) (d__law_program : Df P w K mg base xc 2 "_law_program" ["_law_script"] [.fz] (.nw (.li .fz)) f__law_program []) (d__law_turned : Df P w K mg base xc 1 "_law_turned" ["_law_row"] [.fz] .u f__law_turned []) (d__law_none : Df P w K mg base xc 2 "_law_none" ["_law_rows", "_law_cell"] [.fz, .fz] .u f__law_none []) (d__law_cell_at : Df P w K mg base xc 1 "_law_cell_at" ["_law_script", "_law_k"] [.fz, .fz] .u f__law_cell_at []) (d__law_refused : Df P w K mg base xc 7 "_law_refused" ["_law_old", "_law_new", "_law_paper", "_law_place"] [.fz, .fz, .fz, .fz] .u f__law_refused []) (d__law_number : Df P w K mg base xc 1 "_law_number" ["_law_rows", "_law_word"] [.fz, .fz] .u f__law_number []) (d_places_led : Df P w K mg base xc 6 "places_led" ["old", "new", "paper", "place"] [.fz, .fz, .fz, .fz] (.nw (.li .fz)) f_places_led []) (f : Addr) (cdv : Value) (A : Around) (outer : List Env) (s : Shared) (H : Hp) (E : XK) (hr : Room 7 (A.deeper (envOfC "law" (defScope s_law) s.heap.objs.size f cdv))) :
    SSs (cxOf (L2.CX P w) P w K mg base ["_law_script", "_law_old", "_law_new", "_law_leads", "_law_forms", "_law_paper", "_law_kept", "_law_place", "_law_zero", "_law_right", "_law_row"] "law" (defScope s_law) f cdv A outer s H E) xc (fun cls d _ H => E cls d H) 1 ([.fz] ++ [.fz, .fz, .fz, .fz, .fz, .fz, .fz, .fz, .fz, .fz]) .u (defBody s_law) b_law := by
  have tk := takes_of (X := cxOf (L2.CX P w) P w K mg base ["_law_script", "_law_old", "_law_new", "_law_leads", "_law_forms", "_law_paper", "_law_kept", "_law_place", "_law_zero", "_law_right", "_law_row"] "law" (defScope s_law) f cdv A outer s H E) (E := E) rfl rfl rfl rfl
  have hN := sc_law.nd
  have hc : (cxOf (L2.CX P w) P w K mg base ["_law_script", "_law_old", "_law_new", "_law_leads", "_law_forms", "_law_paper", "_law_kept", "_law_place", "_law_zero", "_law_right", "_law_row"] "law" (defScope s_law) f cdv A outer s H E).calm = true := rfl
  have hu1 : (A.deeper (envOfC "law" (defScope s_law) s.heap.objs.size f cdv)).units + 1 < cLine := by have := hr.un; omega
  have hu : (A.deeper (envOfC "law" (defScope s_law) s.heap.objs.size f cdv)).units + 64 < cLine := by have := hr.un; omega
  have hu65 : (A.deeper (envOfC "law" (defScope s_law) s.heap.objs.size f cdv)).units + 65 < cLine := by have := hr.un; omega
  exact (qq_cons (qs_set 1 (SI.u (si_p (s_callD d__law_program hr (sa_cons (s_var 0) sa_nil))) rfl) hN) (qq_cons (qs_setLc 2 (own := [("_law_row", 10)]) (i_seq (s_var 1)) (blkB_ok (by kernel_rfl)) (fun s H C cl fp => (sg_name 10 hN)) (fun s H C cl fp => stl_nil) (fun s H C cl fp => (s_callD d__law_turned hr (sa_cons (s_var 10) sa_nil))) hN (hΓ := hG (by rfl))) (qq_cons (qs_set 3 (SI.u (si_p (s_listRg hc x.f_list x.f_range (s_call call_len fl_len x.f_len (sa_cons (s_var 1) sa_nil)))) rfl) hN) (qq_cons (qs_setLc 4 (own := [("_law_row", 10)]) (i_seq (s_var 1)) (blkB_ok (by kernel_rfl)) (fun s H C cl fp => (sg_name 10 hN)) (fun s H C cl fp => stl_nil) (fun s H C cl fp => (s_callT call_int1 fl_int1 x.f_int (sa_cons (s_cmp (op_eqD hu) fl_eq (sk .u (s_ix (s_var 10) s_int)) s_str) sa_nil))) hN (hΓ := hG (by rfl))) (qq_cons (qs_set 5 (SI.u (si_p (s_disp (sd_cons s_str (s_var 3) (sd_cons s_str (s_var 4) (sd_cons s_str (SP.u (sk (.nw (.li .fz)) (s_repL (sk (.nw (.li .fz)) (s_lst (sa_cons (sk .u (s_tup sa_nil)) sa_nil))) (s_call call_len fl_len x.f_len (sa_cons (s_var 1) sa_nil)))) rfl) (sd_cons s_str (SP.u (sk (.nw (.li .fz)) (s_lst sa_nil)) rfl) sd_nil)))))) rfl) hN) (qq_cons (qs_set 6 (SI.u (si_p (sk (.nw (.li .fz)) (s_lst (sa_cons (sk (.nw (.li .fz)) (s_list x.f_list (s_var 1))) (sa_cons (sk (.nw (.li .fz)) (s_list x.f_list (s_var 2))) (sa_cons (sk (.nw (.li .fz)) (s_list x.f_list (s_var 3))) (sa_cons (sk (.nw (.li .fz)) (s_list x.f_list (s_var 4))) sa_nil))))))) rfl) hN) (qq_cons (qs_set 7 (si_p (s_callD d__law_none hr (sa_cons (s_var 1) (sa_cons (s_callD d__law_cell_at hr (sa_cons (s_var 0) (sa_cons s_int sa_nil))) sa_nil)))) hN) (qq_cons (qs_if (st_not (st_tru (s_callD d__law_refused hr (sa_cons (s_var 1) (sa_cons (s_var 2) (sa_cons (s_var 5) (sa_cons (s_var 7) sa_nil))))))) (qq_one (qs_ret (si_p s_bl))) qq_nil) (qq_cons (qs_set 8 (si_p (s_callD d__law_number hr (sa_cons (s_var 1) (sa_cons s_str sa_nil)))) hN) (qq_cons (qs_set 9 (si_p (sk .u (s_ix (sk (.nw (.li .fz)) (s_lst (sa_cons (sk .u (s_tup (sa_cons s_str (sa_cons s_int sa_nil)))) (sa_cons (sk .u (s_tup (sa_cons s_str (sa_cons (s_var 8) sa_nil)))) (sa_cons (sk .u (s_tup (sa_cons s_str (sa_cons (s_var 8) (sa_cons s_int sa_nil))))) (sa_cons (sk .u (s_tup (sa_cons s_str (sa_cons (s_var 8) (sa_cons (sk .u (s_add (s_var 8) s_int)) sa_nil))))) sa_nil)))))) (s_bin op_mod fl_mod (s_callD d__law_cell_at hr (sa_cons (s_var 0) (sa_cons s_int sa_nil))) s_int)))) hN) (qq_cons (qs_if (st_cmp (op_neD hu) fl_ne (s_callD d_places_led hr (sa_cons (s_var 1) (sa_cons (s_var 2) (sa_cons (s_var 5) (sa_cons (s_var 9) sa_nil))))) (sk (.nw (.li .fz)) (s_lst (sa_cons (s_var 9) sa_nil)))) (qq_one (qs_ret (si_p s_bl))) qq_nil) (qq_one (qs_ret (si_p (s_cmp (op_eqD hu) fl_eq (sk (.nw (.li .fz)) (s_lst (sa_cons (s_var 1) (sa_cons (s_var 2) (sa_cons (sk .u (s_dix hu1 (s_var 5) s_str)) (sa_cons (sk .u (s_dix hu1 (s_var 5) s_str)) sa_nil)))))) (s_var 6))))))))))))))))
theorem ok_law {P : Program} {w : World} {K : PySem.W.Frag} {mg : Str → Option Value} {base : Heap} {xc : Nat → Addr} {f : Addr} {fd : FuncData} (x : Fx P w K mg) (z : Zx P w K mg base xc) (d__law_program : Df P w K mg base xc 2 "_law_program" ["_law_script"] [.fz] (.nw (.li .fz)) f__law_program []) (d__law_turned : Df P w K mg base xc 1 "_law_turned" ["_law_row"] [.fz] .u f__law_turned []) (d__law_none : Df P w K mg base xc 2 "_law_none" ["_law_rows", "_law_cell"] [.fz, .fz] .u f__law_none []) (d__law_cell_at : Df P w K mg base xc 1 "_law_cell_at" ["_law_script", "_law_k"] [.fz, .fz] .u f__law_cell_at []) (d__law_refused : Df P w K mg base xc 7 "_law_refused" ["_law_old", "_law_new", "_law_paper", "_law_place"] [.fz, .fz, .fz, .fz] .u f__law_refused []) (d__law_number : Df P w K mg base xc 1 "_law_number" ["_law_rows", "_law_word"] [.fz, .fz] .u f__law_number []) (d_places_led : Df P w K mg base xc 6 "places_led" ["old", "new", "paper", "place"] [.fz, .fz, .fz, .fz] (.nw (.li .fz)) f_places_led []) (F : FunD K "law" "law" (defArgs s_law) (defBody s_law) (defScope s_law) [] [] f fd) :
    FnOk P w K mg base (L2.CX P w) 8 f fd ["_law_script"] (spD K xc [.fz] .u f_law) :=
  df_ok (Γl := [.fz, .fz, .fz, .fz, .fz, .fz, .fz, .fz, .fz, .fz]) F sc_law rfl rfl (.inl rfl) fun cdv A outer s H E hr => bo_law x z d__law_program d__law_turned d__law_none d__law_cell_at d__law_refused d__law_number d_places_led f cdv A outer s H E hr
theorem df_law {P : Program} {w : World} {K : PySem.W.Frag} {mg : Str → Option Value} {base : Heap} {xc : Nat → Addr} {f : Addr} {fd : FuncData} (x : Fx P w K mg) (z : Zx P w K mg base xc) (d__law_program : Df P w K mg base xc 2 "_law_program" ["_law_script"] [.fz] (.nw (.li .fz)) f__law_program []) (d__law_turned : Df P w K mg base xc 1 "_law_turned" ["_law_row"] [.fz] .u f__law_turned []) (d__law_none : Df P w K mg base xc 2 "_law_none" ["_law_rows", "_law_cell"] [.fz, .fz] .u f__law_none []) (d__law_cell_at : Df P w K mg base xc 1 "_law_cell_at" ["_law_script", "_law_k"] [.fz, .fz] .u f__law_cell_at []) (d__law_refused : Df P w K mg base xc 7 "_law_refused" ["_law_old", "_law_new", "_law_paper", "_law_place"] [.fz, .fz, .fz, .fz] .u f__law_refused []) (d__law_number : Df P w K mg base xc 1 "_law_number" ["_law_rows", "_law_word"] [.fz, .fz] .u f__law_number []) (d_places_led : Df P w K mg base xc 6 "places_led" ["old", "new", "paper", "place"] [.fz, .fz, .fz, .fz] (.nw (.li .fz)) f_places_led []) (F : FunD K "law" "law" (defArgs s_law) (defBody s_law) (defScope s_law) [] [] f fd) (kp : PySem.W.keepIn K (.ref f) = true) (hm : mg "law" = some (.ref f)) :
    Df P w K mg base xc 8 "law" ["_law_script"] [.fz] .u f_law [] :=
  ⟨f, fd, [], hm, ok_law x z d__law_program d__law_turned d__law_none d__law_cell_at d__law_refused d__law_number d_places_led F, kp, F.bindsN (fun _ _ _ _ _ _ us hl => match us, hl with | [_], _ => rfl), .nil, rfl⟩
/-! ### the head -/
def dd_goes_on : He.DefD := ⟨("goes_on", none), "goes_on", "goes_on", defArgs s_goes_on, defBody s_goes_on, defScope s_goes_on, [], []⟩
def dd_targets_of : He.DefD := ⟨("targets_of", none), "targets_of", "targets_of", defArgs s_targets_of, defBody s_targets_of, defScope s_targets_of, [], []⟩
def dd_ways_of : He.DefD := ⟨("ways_of", none), "ways_of", "ways_of", defArgs s_ways_of, defBody s_ways_of, defScope s_ways_of, [], []⟩
def dd_is_from : He.DefD := ⟨("is_from", none), "is_from", "is_from", defArgs s_is_from, defBody s_is_from, defScope s_is_from, [], []⟩
def dd_is_place : He.DefD := ⟨("is_place", none), "is_place", "is_place", defArgs s_is_place, defBody s_is_place, defScope s_is_place, [], []⟩
def dd_is_what : He.DefD := ⟨("is_what", none), "is_what", "is_what", defArgs s_is_what, defBody s_is_what, defScope s_is_what, [], []⟩
def dd_is_wish : He.DefD := ⟨("is_wish", none), "is_wish", "is_wish", defArgs s_is_wish, defBody s_is_wish, defScope s_is_wish, [], []⟩
def dd_check_wishes : He.DefD := ⟨("check_wishes", none), "check_wishes", "check_wishes", defArgs s_check_wishes, defBody s_check_wishes, defScope s_check_wishes, [], []⟩
def dd_end_of_walk : He.DefD := ⟨("end_of_walk", none), "end_of_walk", "end_of_walk", defArgs s_end_of_walk, defBody s_end_of_walk, defScope s_end_of_walk, [], []⟩
def dd_standing : He.DefD := ⟨("standing", none), "standing", "standing", defArgs s_standing, defBody s_standing, defScope s_standing, [], []⟩
def dd_places_led : He.DefD := ⟨("places_led", none), "places_led", "places_led", defArgs s_places_led, defBody s_places_led, defScope s_places_led, [], []⟩
def dd__law_cell_at : He.DefD := ⟨("_law_cell_at", none), "_law_cell_at", "_law_cell_at", defArgs s__law_cell_at, defBody s__law_cell_at, defScope s__law_cell_at, [], []⟩
def dd__law_program : He.DefD := ⟨("_law_program", none), "_law_program", "_law_program", defArgs s__law_program, defBody s__law_program, defScope s__law_program, [], []⟩
def dd__law_number : He.DefD := ⟨("_law_number", none), "_law_number", "_law_number", defArgs s__law_number, defBody s__law_number, defScope s__law_number, [], []⟩
def dd__law_none : He.DefD := ⟨("_law_none", none), "_law_none", "_law_none", defArgs s__law_none, defBody s__law_none, defScope s__law_none, [], []⟩
def dd__law_refused : He.DefD := ⟨("_law_refused", none), "_law_refused", "_law_refused", defArgs s__law_refused, defBody s__law_refused, defScope s__law_refused, [], []⟩
def dd__law_turned : He.DefD := ⟨("_law_turned", none), "_law_turned", "_law_turned", defArgs s__law_turned, defBody s__law_turned, defScope s__law_turned, [], []⟩
def dd_law : He.DefD := ⟨("law", none), "law", "law", defArgs s_law, defBody s_law, defScope s_law, [], []⟩
def dd_NoWish__init : He.DefD := ⟨("NoWish", some "__init__"), "__init__", "NoWish.__init__", defArgs s_NoWish__init, defBody s_NoWish__init, defScope s_NoWish__init, [], []⟩
def fn : List He.DefD := [dd_goes_on, dd_targets_of, dd_ways_of, dd_is_from, dd_is_place, dd_is_what, dd_is_wish, dd_check_wishes, dd_end_of_walk, dd_standing, dd_places_led, dd__law_cell_at, dd__law_program, dd__law_number, dd__law_none, dd__law_refused, dd__law_turned, dd_law, dd_NoWish__init]
def zs (K : PySem.W.Frag) : List Bool := [iniB K "NoWish", upB K (He.ga K "RowError"), exmB K "NoWish" "RowError" true, kitC K "NoWish" "NoRows" false, kitC K "NoWish" "NoFree" false, kitC K "NoWish" "NoPaper" false, kitC K "NoWish" "TooMuch" false, kitC K "NoWish" "NoLine" false, kitC K "NoWish" "NoWish" true, kitT K "NoWish" "ValueError" true]
def xcs (K : PySem.W.Frag) : Nat → Addr := fun c => match c with | 0 => He.ga K "NoWish" | _ => 0
def fa : List He.Fa := [.glo "goes_on", .glo "targets_of", .glo "ways_of", .glo "is_from", .glo "is_place", .glo "is_what", .glo "is_wish", .glo "check_wishes", .glo "end_of_walk", .glo "standing", .glo "places_led", .glo "_law_cell_at", .glo "_law_program", .glo "_law_number", .glo "_law_none", .glo "_law_refused", .glo "_law_turned", .glo "law", .free "list", .free "sorted", .free "set", .free "isinstance", .free "bool", .free "int", .free "len", .free "tuple", .free "enumerate", .free "range", .free "ValueError", .glo "NoWish", .glo "RowError", .glo "NoRows", .glo "NoFree", .glo "NoPaper", .glo "TooMuch", .glo "NoLine"]
def cs : List (Str × D) := [("ENDS", k_ENDS), ("LED", k_LED), ("MOST_WISHES", k_MOST_WISHES)]
def ts : List He.Tab := []
def ex (K : PySem.W.Frag) : Bool := ctsB K cs && (zs K).all id
abbrev R : PySem.W.OpenRow := PySem.W.OpenLaw.row PySem.Challenge.rw_widenrows_k73_places_that_are_none
abbrev hk : PySem.W.Hook := hookY 5 fa fn ts ex
def ob (s : PySem.W.SharedT) : He.AlX := obsY 5 fa fn ts ex (HandSHeadRun.getT s)
theorem ob_eq (s : PySem.W.SharedT) : ob s = hk.obs s.abs := obsY_eq (HandSHeadRun.getT_eq s)
def loose : List Str := ["ENDS", "LED", "goes_on", "targets_of", "ways_of", "RowError", "NoRows", "NoFree", "NoWish", "NoPaper", "TooMuch", "NoLine", "MOST_WISHES", "is_from", "is_place", "is_what", "is_wish", "check_wishes", "end_of_walk", "standing", "places_led", "_law_cell_at", "_law_program", "_law_number", "_law_none", "_law_refused", "_law_turned"]
theorem run (w : World) : HandSHeadRun.RunEq R (PySem.W.view R.prog [32]) hk ob 3000 loose w := by
  refine PySem.W.byRow2 "special-get-raises" (P := fun w => HandSHeadRun.RunEq R (PySem.W.view R.prog [32]) hk ob 3000 loose w) (fun w => ?_) (fun w => ?_) w
  · intro os; kernel_rfl
  · intro os; kernel_rfl
theorem facts {P : Program} {w : World} {K : PySem.W.Frag} {h : Heap} {mg : Str → Option Value} {f : Addr} (pure : ∀ ns : List Int, ns.length ≤ 63 → f_law [.lst (ns.map .int)] = some (.rt (.bl true), [])) (X : K.In h) (G : h.Ns mainGlobals mg) (hfa : mg ("law" : Str) = some (.ref f)) (c : He.SaysX fa fn ts [] ex w h K) :
    ∃ fd : FuncData, (∀ (s : Shared) (v : Value), BindsTo s fd ⟨[v], []⟩ [("_law_script", v)]) ∧ ∀ base : Heap, K.In base → base.Ns mainGlobals mg → FnOk P w K mg base (L2.CX P w) 8 f fd ["_law_script"] (spLaw K) := by
  have c0 : ex K = true := c.more
  unfold ex at c0
  obtain ⟨c0, cz⟩ := Bool.and_eq_true_iff.mp c0
  have x : Fx P w K mg := ⟨He.free_ok X G (c.t.d.fact 18 (f := .free "list") rfl), He.free_ok X G (c.t.d.fact 19 (f := .free "sorted") rfl), He.free_ok X G (c.t.d.fact 20 (f := .free "set") rfl), He.free_ok X G (c.t.d.fact 21 (f := .free "isinstance") rfl), He.free_ok X G (c.t.d.fact 22 (f := .free "bool") rfl), He.free_ok X G (c.t.d.fact 23 (f := .free "int") rfl), He.free_ok X G (c.t.d.fact 24 (f := .free "len") rfl), He.free_ok X G (c.t.d.fact 25 (f := .free "tuple") rfl), He.free_ok X G (c.t.d.fact 26 (f := .free "enumerate") rfl), He.free_ok X G (c.t.d.fact 27 (f := .free "range") rfl), He.free_ok X G (c.t.d.fact 28 (f := .free "ValueError") rfl), ctsB_ok X G c0 0, ctsB_ok X G c0 1, ctsB_ok X G c0 2⟩
  obtain ⟨fd0, F0⟩ := c.t.d.def_ 0 (d := dd_goes_on) rfl
  have g0 := He.glo_ok X G (c.t.d.fact 0 (f := .glo "goes_on") rfl)
  obtain ⟨fd1, F1⟩ := c.t.d.def_ 1 (d := dd_targets_of) rfl
  have g1 := He.glo_ok X G (c.t.d.fact 1 (f := .glo "targets_of") rfl)
  obtain ⟨fd2, F2⟩ := c.t.d.def_ 2 (d := dd_ways_of) rfl
  have g2 := He.glo_ok X G (c.t.d.fact 2 (f := .glo "ways_of") rfl)
  obtain ⟨fd3, F3⟩ := c.t.d.def_ 3 (d := dd_is_from) rfl
  have g3 := He.glo_ok X G (c.t.d.fact 3 (f := .glo "is_from") rfl)
  obtain ⟨fd4, F4⟩ := c.t.d.def_ 4 (d := dd_is_place) rfl
  have g4 := He.glo_ok X G (c.t.d.fact 4 (f := .glo "is_place") rfl)
  obtain ⟨fd5, F5⟩ := c.t.d.def_ 5 (d := dd_is_what) rfl
  have g5 := He.glo_ok X G (c.t.d.fact 5 (f := .glo "is_what") rfl)
  obtain ⟨fd6, F6⟩ := c.t.d.def_ 6 (d := dd_is_wish) rfl
  have g6 := He.glo_ok X G (c.t.d.fact 6 (f := .glo "is_wish") rfl)
  obtain ⟨fd7, F7⟩ := c.t.d.def_ 7 (d := dd_check_wishes) rfl
  have g7 := He.glo_ok X G (c.t.d.fact 7 (f := .glo "check_wishes") rfl)
  obtain ⟨fd8, F8⟩ := c.t.d.def_ 8 (d := dd_end_of_walk) rfl
  have g8 := He.glo_ok X G (c.t.d.fact 8 (f := .glo "end_of_walk") rfl)
  obtain ⟨fd9, F9⟩ := c.t.d.def_ 9 (d := dd_standing) rfl
  have g9 := He.glo_ok X G (c.t.d.fact 9 (f := .glo "standing") rfl)
  obtain ⟨fd10, F10⟩ := c.t.d.def_ 10 (d := dd_places_led) rfl
  have g10 := He.glo_ok X G (c.t.d.fact 10 (f := .glo "places_led") rfl)
  obtain ⟨fd11, F11⟩ := c.t.d.def_ 11 (d := dd__law_cell_at) rfl
  have g11 := He.glo_ok X G (c.t.d.fact 11 (f := .glo "_law_cell_at") rfl)
  obtain ⟨fd12, F12⟩ := c.t.d.def_ 12 (d := dd__law_program) rfl
  have g12 := He.glo_ok X G (c.t.d.fact 12 (f := .glo "_law_program") rfl)
  obtain ⟨fd13, F13⟩ := c.t.d.def_ 13 (d := dd__law_number) rfl
  have g13 := He.glo_ok X G (c.t.d.fact 13 (f := .glo "_law_number") rfl)
  obtain ⟨fd14, F14⟩ := c.t.d.def_ 14 (d := dd__law_none) rfl
  have g14 := He.glo_ok X G (c.t.d.fact 14 (f := .glo "_law_none") rfl)
  obtain ⟨fd15, F15⟩ := c.t.d.def_ 15 (d := dd__law_refused) rfl
  have g15 := He.glo_ok X G (c.t.d.fact 15 (f := .glo "_law_refused") rfl)
  obtain ⟨fd16, F16⟩ := c.t.d.def_ 16 (d := dd__law_turned) rfl
  have g16 := He.glo_ok X G (c.t.d.fact 16 (f := .glo "_law_turned") rfl)
  obtain ⟨fd17, F17⟩ := c.t.d.def_ 17 (d := dd_law) rfl
  have g17 := He.glo_ok X G (c.t.d.fact 17 (f := .glo "law") rfl)
  obtain ⟨fi0, I0⟩ := c.t.d.def_ 18 (d := dd_NoWish__init) rfl
  have gm_NoWish := He.glo_ok X G (c.t.d.fact 29 (f := .glo "NoWish") rfl)
  have gm_RowError := He.glo_ok X G (c.t.d.fact 30 (f := .glo "RowError") rfl)
  have gm_NoRows := He.glo_ok X G (c.t.d.fact 31 (f := .glo "NoRows") rfl)
  have gm_NoFree := He.glo_ok X G (c.t.d.fact 32 (f := .glo "NoFree") rfl)
  have gm_NoPaper := He.glo_ok X G (c.t.d.fact 33 (f := .glo "NoPaper") rfl)
  have gm_TooMuch := He.glo_ok X G (c.t.d.fact 34 (f := .glo "TooMuch") rfl)
  have gm_NoLine := He.glo_ok X G (c.t.d.fact 35 (f := .glo "NoLine") rfl)
  cases hfa.symm.trans g17
  have b := FunD.bindsA (ps := ["_law_script"]) F17 fun _ _ _ _ _ _ us hl => match us, hl with | [_], _ => rfl
  refine ⟨fd17, fun s v => b s [v] rfl, fun base _ _ => ?_⟩
  have z : Zx P w K mg base (xcs K) := ⟨iniB_ok (alls cz 0 rfl) gm_NoWish I0 sc_NoWish__init (I0.bindsN (fun _ _ _ _ _ _ us hl => match us, hl with | [_, _], _ => rfl)) (fun T cdv A outer s H E => pss_cons (ps_expr (pe_upinit (upB_ok (alls cz 1 rfl)) rfl gm_RowError (pa_cons (pe_var rfl (Or.inl rfl)) (pa_cons pe_str pa_nil)))) (pss_cons (ps_ost (pe_var rfl (Or.inl rfl)) (pe_var rfl (Or.inl rfl))) pss_nil)), gm_NoWish, gm_RowError, gm_NoRows, gm_NoFree, gm_NoPaper, gm_TooMuch, gm_NoLine, of_decide_eq_true (alls cz 2 rfl), of_decide_eq_true (alls cz 3 rfl), of_decide_eq_true (alls cz 4 rfl), of_decide_eq_true (alls cz 5 rfl), of_decide_eq_true (alls cz 6 rfl), of_decide_eq_true (alls cz 7 rfl), of_decide_eq_true (alls cz 8 rfl), of_decide_eq_true (alls cz 9 rfl)⟩
  have d_goes_on := df_goes_on (base := base) (xc := xcs K) x z F0 F0.kp g0
  have d_targets_of := df_targets_of (base := base) (xc := xcs K) x z F1 F1.kp g1
  have d_ways_of := df_ways_of (base := base) (xc := xcs K) x z d_targets_of d_goes_on F2 F2.kp g2
  have d_is_from := df_is_from (base := base) (xc := xcs K) x z F3 F3.kp g3
  have d_is_place := df_is_place (base := base) (xc := xcs K) x z d_is_from d_ways_of F4 F4.kp g4
  have d_is_what := df_is_what (base := base) (xc := xcs K) x z d_is_from F5 F5.kp g5
  have d_is_wish := df_is_wish (base := base) (xc := xcs K) x z d_is_what d_is_place F6 F6.kp g6
  have d_check_wishes := df_check_wishes (base := base) (xc := xcs K) x z d_is_wish F7 F7.kp g7
  have d_end_of_walk := df_end_of_walk (base := base) (xc := xcs K) x z d_ways_of F8 F8.kp g8
  have d_standing := df_standing (base := base) (xc := xcs K) x z F9 F9.kp g9
  have d_places_led := df_places_led (base := base) (xc := xcs K) x z d_check_wishes d_standing d_ways_of d_end_of_walk F10 F10.kp g10
  have d__law_cell_at := df__law_cell_at (base := base) (xc := xcs K) x z F11 F11.kp g11
  have d__law_program := df__law_program (base := base) (xc := xcs K) x z d__law_cell_at F12 F12.kp g12
  have d__law_number := df__law_number (base := base) (xc := xcs K) x z F13 F13.kp g13
  have d__law_none := df__law_none (base := base) (xc := xcs K) x z d__law_number F14 F14.kp g14
  have d__law_refused := df__law_refused (base := base) (xc := xcs K) x z d_places_led F15 F15.kp g15
  have d__law_turned := df__law_turned (base := base) (xc := xcs K) x z F16 F16.kp g16
  exact law_ok (ok_law (base := base) (xc := xcs K) x z d__law_program d__law_turned d__law_none d__law_cell_at d__law_refused d__law_number d_places_led F17) pure

end K73

set_option Elab.async false
set_option linter.all false
set_option maxRecDepth 100000
set_option maxHeartbeats 4000000
namespace K73
open PySem PySem.Spec PyProof.Rows L2 Py
theorem cell_at (ns : List Int) (k : Int) (h : 0 ≤ k) : ∃ c, f__law_cell_at [.lst (ns.map .int), .int k] = some (.rt (.int c), []) := by
  by_cases q : k < (ns.length : Nat)
  · obtain ⟨n, rfl⟩ := Int.eq_ofNat_of_zero_le h
    have hn : n < ns.length := by omega
    have a : atI (ns.map D.int) (n : Int) = some (.int ns[n]) := by
      rw [at_nat (by rw [List.length_map]; exact hn), List.getElem_map]
    refine ⟨ns[n], ?_⟩
    simp only [f__law_cell_at, b__law_cell_at, eqD_i, neD_i, adD_i, vr0, vr1, vr2, vr3, vr4, vr5, vr6, vr7, vr8, vr9, vr10, vr11, vr12, vr13, vr14, vr15, vr16, vr17, vr18, vr19, vr20, vr21, vr22, vr23, put0, put1, put2, put3, put4, put5, put6, put7, put8, put9, put10, put11, put12, put13, put14, put15, put16, put17, put18, put19, put20, put21, put22, put23, onL0, onL1, onL2, onL3, onL4, onL5, onL6, onL7, onL8, onL9, onL10, onL11, onL12, onL13, onL14, onL15, onL16, onL17, onL18, onL19, onL20, onL21, onL22, onL23, isL0, isL1, isL2, isL3, isL4, isL5, isL6, isL7, isL8, isL9, isL10, isL11, isL12, isL13, isL14, isL15, isL16, isL17, isL18, isL19, isL20, isL21, isL22, isL23, mv0, mv1, mv2, mv3, mv4, mv5, mv6, mv7, mv8, mv9, mv10, mv11, mv12, mv13, mv14, mv15, mv16, mv17, mv18, mv19, mv20, mv21, mv22, mv23, oC0, oC1, oC2, oC3, oC4, oC5, oC6, oC7, ls0, ls1, ls2, ls3, ls4, ls5, ls6, ls7, ls8, ls9, ls10, ls11, ls12, tp0, tp1, tp2, tp3, tp4, tp5, tp6, tp7, tp8, tp9, tp10, tp11, tp12, Py.c0, Py.b1, Py.b2, Py.b3, Py.bA, Py.a0, Py.a1, Py.tb, Py.p2i, Py.qDo, Py.q1, Py.qIf, Py.qRt, Py.q0, Py.qAp, Py.mkF, Py.sbI, Py.ixD, Py.cpI, Py.asB, Py.truD, Py.tN, Py.tA, Py.tO, Py.vA, Py.vO, Py.vN, Py.cI, Py.iB, Py.ia0, Py.ia1, Py.iaM, Py.imD, Py.ngI, Py.liD, Py.tuD, Py.intD, Py.maxD, Py.minD, Py.sq, Py.flt, Py.ch, Py.itD, Py.itA, Py.asS, Option.bind_some, Option.bind_none, Option.map_some, Option.map_none, List.map_cons, List.map_nil, List.cons_append, List.nil_append, List.length_cons, List.length_nil, List.replicate, Int.reduceLT, Int.reduceLE, Int.reduceGT, Int.reduceGE, Int.reduceEq, Int.reduceNe, Int.reduceAdd, Int.reduceSub, Int.reduceMul, Int.reduceNeg, Int.reduceMod, Int.reduceDiv, Nat.reduceAdd, Nat.reduceLT, decide_true, decide_false, if_true, if_false, reduceIte, and_self, and_true, true_and, or_true, true_or, or_false, false_or, not_true_eq_false, not_false_eq_true, Bool.not_true, Bool.not_false, Bool.false_eq_true, len_l, List.length_map, q, a]
  · refine ⟨0, ?_⟩
    simp only [f__law_cell_at, b__law_cell_at, eqD_i, neD_i, adD_i, vr0, vr1, vr2, vr3, vr4, vr5, vr6, vr7, vr8, vr9, vr10, vr11, vr12, vr13, vr14, vr15, vr16, vr17, vr18, vr19, vr20, vr21, vr22, vr23, put0, put1, put2, put3, put4, put5, put6, put7, put8, put9, put10, put11, put12, put13, put14, put15, put16, put17, put18, put19, put20, put21, put22, put23, onL0, onL1, onL2, onL3, onL4, onL5, onL6, onL7, onL8, onL9, onL10, onL11, onL12, onL13, onL14, onL15, onL16, onL17, onL18, onL19, onL20, onL21, onL22, onL23, isL0, isL1, isL2, isL3, isL4, isL5, isL6, isL7, isL8, isL9, isL10, isL11, isL12, isL13, isL14, isL15, isL16, isL17, isL18, isL19, isL20, isL21, isL22, isL23, mv0, mv1, mv2, mv3, mv4, mv5, mv6, mv7, mv8, mv9, mv10, mv11, mv12, mv13, mv14, mv15, mv16, mv17, mv18, mv19, mv20, mv21, mv22, mv23, oC0, oC1, oC2, oC3, oC4, oC5, oC6, oC7, ls0, ls1, ls2, ls3, ls4, ls5, ls6, ls7, ls8, ls9, ls10, ls11, ls12, tp0, tp1, tp2, tp3, tp4, tp5, tp6, tp7, tp8, tp9, tp10, tp11, tp12, Py.c0, Py.b1, Py.b2, Py.b3, Py.bA, Py.a0, Py.a1, Py.tb, Py.p2i, Py.qDo, Py.q1, Py.qIf, Py.qRt, Py.q0, Py.qAp, Py.mkF, Py.sbI, Py.ixD, Py.cpI, Py.asB, Py.truD, Py.tN, Py.tA, Py.tO, Py.vA, Py.vO, Py.vN, Py.cI, Py.iB, Py.ia0, Py.ia1, Py.iaM, Py.imD, Py.ngI, Py.liD, Py.tuD, Py.intD, Py.maxD, Py.minD, Py.sq, Py.flt, Py.ch, Py.itD, Py.itA, Py.asS, Option.bind_some, Option.bind_none, Option.map_some, Option.map_none, List.map_cons, List.map_nil, List.cons_append, List.nil_append, List.length_cons, List.length_nil, List.replicate, Int.reduceLT, Int.reduceLE, Int.reduceGT, Int.reduceGE, Int.reduceEq, Int.reduceNe, Int.reduceAdd, Int.reduceSub, Int.reduceMul, Int.reduceNeg, Int.reduceMod, Int.reduceDiv, Nat.reduceAdd, Nat.reduceLT, decide_true, decide_false, if_true, if_false, reduceIte, and_self, and_true, true_and, or_true, true_or, or_false, false_or, not_true_eq_false, not_false_eq_true, Bool.not_true, Bool.not_false, Bool.false_eq_true, len_l, List.length_map, q]
/-- the rows of these programs; f: far turned about -/
inductive Rw (f : Bool) : Str → D → Prop
  | set (b x : Int) : Rw f "set" (.tup [.str "set", .int b, .int x])
  | stop : Rw f "stop" (.tup [.str "stop"])
  | back : Rw f "back" (.tup [.str "back"])
  | jump : Rw f "jump" (.tup [.str "jump", .int 0, .int (if f then 1 else 0)])
  | zero (b : Int) : Rw f "zero" (.tup [.str "zero", .int b, .int 1, .int (if f then 0 else 1)])
theorem Rw.okk {f : Bool} {w : Str} {d : D} (h : Rw f w d) : d.ok 59 = true := by cases h <;> cases f <;> kernel_rfl
theorem Rw.turn {w : Str} {d : D} (h : Rw false w d) : ∃ d', f__law_turned [d] = some (.rt d', []) ∧ Rw true w d' := by
  cases h with
  | set b x => exact ⟨_, by kernel_rfl, .set b x⟩
  | stop => exact ⟨_, by kernel_rfl, .stop⟩
  | back => exact ⟨_, by kernel_rfl, .back⟩
  | jump => exact ⟨_, by kernel_rfl, .jump⟩
  | zero b => exact ⟨_, by kernel_rfl, .zero b⟩
theorem goes {f : Bool} {w : Str} {d : D} (h : Rw f w d) : f_goes_on [d] = some (.rt (.bl (decide (w = "set" ∨ w = "zero"))), []) := by
  cases h <;> cases f <;> kernel_rfl
theorem tgt {f : Bool} {w : Str} {d : D} (h : Rw f w d) : ∃ ts : List Int, f_targets_of [d] = some (.rt (.lst (ts.map .int)), []) ∧ ts = (if w = "jump" then [0] else if w = "zero" then [1] else []) := by
  cases h with
  | set b x => exact ⟨[], by kernel_rfl, by decide⟩
  | stop => exact ⟨[], by kernel_rfl, by decide⟩
  | back => exact ⟨[], by kernel_rfl, by decide⟩
  | jump => cases f <;> exact ⟨[0], by kernel_rfl, by decide⟩
  | zero b => cases f <;> exact ⟨[1], by kernel_rfl, by decide⟩
/-- the ways out of a row -/
def wys (w : Str) (i : Nat) : List Int := if w = "jump" then [0] else if w = "zero" then (if i = 0 then [1] else [1, (i : Int) + 1]) else if w = "set" then [(i : Int) + 1] else []
theorem sdd2 (k : Int) (h : 1 < k) : sdd [1, k] = [1, k] := by
  refine pw_unique sdd_pw (by simp; exact h) fun j => ?_
  rw [sdd_mem]
theorem ways {f : Bool} {w : Str} {d : D} {R : List D} {i : Nat} (hi : R[i]? = some d) (h : Rw f w d) : f_ways_of [.lst R, .int (i : Int)] = some (.rt (.lst ((wys w i).map .int)), []) := by
  have a := at_q hi
  have g := goes h
  obtain ⟨ts, t1, t2⟩ := tgt h
  have srt : ∀ ns : List Int, ns.length < 64 → srtD (.lst (ns.map .int)) = some (.lst ((sdd ns).map .int)) := fun ns hn => srt_ints hn
  cases h with
  | set b x =>
    have t2' : ts = [] := by rw [t2]; decide
    subst t2'
    have s := srt [(i : Int) + 1] (by simp)
    have g' : f_goes_on [.tup [.str "set", .int b, .int x]] = some (.rt (.bl true), []) := g
    have ap := ap_len (x := .int ((i : Int) + 1)) (xs := []) (by simp)
    simp only [List.map_cons, List.map_nil] at s t1
    simp only [f_ways_of, b_ways_of, eqD_i, neD_i, adD_i, vr0, vr1, vr2, vr3, vr4, vr5, vr6, vr7, vr8, vr9, vr10, vr11, vr12, vr13, vr14, vr15, vr16, vr17, vr18, vr19, vr20, vr21, vr22, vr23, put0, put1, put2, put3, put4, put5, put6, put7, put8, put9, put10, put11, put12, put13, put14, put15, put16, put17, put18, put19, put20, put21, put22, put23, onL0, onL1, onL2, onL3, onL4, onL5, onL6, onL7, onL8, onL9, onL10, onL11, onL12, onL13, onL14, onL15, onL16, onL17, onL18, onL19, onL20, onL21, onL22, onL23, isL0, isL1, isL2, isL3, isL4, isL5, isL6, isL7, isL8, isL9, isL10, isL11, isL12, isL13, isL14, isL15, isL16, isL17, isL18, isL19, isL20, isL21, isL22, isL23, mv0, mv1, mv2, mv3, mv4, mv5, mv6, mv7, mv8, mv9, mv10, mv11, mv12, mv13, mv14, mv15, mv16, mv17, mv18, mv19, mv20, mv21, mv22, mv23, oC0, oC1, oC2, oC3, oC4, oC5, oC6, oC7, ls0, ls1, ls2, ls3, ls4, ls5, ls6, ls7, ls8, ls9, ls10, ls11, ls12, tp0, tp1, tp2, tp3, tp4, tp5, tp6, tp7, tp8, tp9, tp10, tp11, tp12, Py.c0, Py.b1, Py.b2, Py.b3, Py.bA, Py.a0, Py.a1, Py.tb, Py.p2i, Py.qDo, Py.q1, Py.qIf, Py.qRt, Py.q0, Py.qAp, Py.mkF, Py.sbI, Py.ixD, Py.cpI, Py.asB, Py.truD, Py.tN, Py.tA, Py.tO, Py.vA, Py.vO, Py.vN, Py.cI, Py.iB, Py.ia0, Py.ia1, Py.iaM, Py.imD, Py.ngI, Py.liD, Py.tuD, Py.intD, Py.maxD, Py.minD, Py.sq, Py.flt, Py.ch, Py.itD, Py.itA, Py.asS, Option.bind_some, Option.bind_none, Option.map_some, Option.map_none, List.map_cons, List.map_nil, List.cons_append, List.nil_append, List.length_cons, List.length_nil, List.replicate, Int.reduceLT, Int.reduceLE, Int.reduceGT, Int.reduceGE, Int.reduceEq, Int.reduceNe, Int.reduceAdd, Int.reduceSub, Int.reduceMul, Int.reduceNeg, Int.reduceMod, Int.reduceDiv, Nat.reduceAdd, Nat.reduceLT, decide_true, decide_false, if_true, if_false, reduceIte, and_self, and_true, true_and, or_true, true_or, or_false, false_or, not_true_eq_false, not_false_eq_true, Bool.not_true, Bool.not_false, Bool.false_eq_true, Py.cD, List.append_nil, a, t1, g', ap, s]
    rfl
  | stop =>
    have t2' : ts = [] := by rw [t2]; decide
    subst t2'
    have g' : f_goes_on [.tup [.str "stop"]] = some (.rt (.bl false), []) := g
    have s := srt [] (by simp)
    simp only [List.map_cons, List.map_nil] at s t1
    simp only [f_ways_of, b_ways_of, eqD_i, neD_i, adD_i, vr0, vr1, vr2, vr3, vr4, vr5, vr6, vr7, vr8, vr9, vr10, vr11, vr12, vr13, vr14, vr15, vr16, vr17, vr18, vr19, vr20, vr21, vr22, vr23, put0, put1, put2, put3, put4, put5, put6, put7, put8, put9, put10, put11, put12, put13, put14, put15, put16, put17, put18, put19, put20, put21, put22, put23, onL0, onL1, onL2, onL3, onL4, onL5, onL6, onL7, onL8, onL9, onL10, onL11, onL12, onL13, onL14, onL15, onL16, onL17, onL18, onL19, onL20, onL21, onL22, onL23, isL0, isL1, isL2, isL3, isL4, isL5, isL6, isL7, isL8, isL9, isL10, isL11, isL12, isL13, isL14, isL15, isL16, isL17, isL18, isL19, isL20, isL21, isL22, isL23, mv0, mv1, mv2, mv3, mv4, mv5, mv6, mv7, mv8, mv9, mv10, mv11, mv12, mv13, mv14, mv15, mv16, mv17, mv18, mv19, mv20, mv21, mv22, mv23, oC0, oC1, oC2, oC3, oC4, oC5, oC6, oC7, ls0, ls1, ls2, ls3, ls4, ls5, ls6, ls7, ls8, ls9, ls10, ls11, ls12, tp0, tp1, tp2, tp3, tp4, tp5, tp6, tp7, tp8, tp9, tp10, tp11, tp12, Py.c0, Py.b1, Py.b2, Py.b3, Py.bA, Py.a0, Py.a1, Py.tb, Py.p2i, Py.qDo, Py.q1, Py.qIf, Py.qRt, Py.q0, Py.qAp, Py.mkF, Py.sbI, Py.ixD, Py.cpI, Py.asB, Py.truD, Py.tN, Py.tA, Py.tO, Py.vA, Py.vO, Py.vN, Py.cI, Py.iB, Py.ia0, Py.ia1, Py.iaM, Py.imD, Py.ngI, Py.liD, Py.tuD, Py.intD, Py.maxD, Py.minD, Py.sq, Py.flt, Py.ch, Py.itD, Py.itA, Py.asS, Option.bind_some, Option.bind_none, Option.map_some, Option.map_none, List.map_cons, List.map_nil, List.cons_append, List.nil_append, List.length_cons, List.length_nil, List.replicate, Int.reduceLT, Int.reduceLE, Int.reduceGT, Int.reduceGE, Int.reduceEq, Int.reduceNe, Int.reduceAdd, Int.reduceSub, Int.reduceMul, Int.reduceNeg, Int.reduceMod, Int.reduceDiv, Nat.reduceAdd, Nat.reduceLT, decide_true, decide_false, if_true, if_false, reduceIte, and_self, and_true, true_and, or_true, true_or, or_false, false_or, not_true_eq_false, not_false_eq_true, Bool.not_true, Bool.not_false, Bool.false_eq_true, Py.cD, List.append_nil, a, t1, g', s]
    rfl
  | back =>
    have t2' : ts = [] := by rw [t2]; decide
    subst t2'
    have g' : f_goes_on [.tup [.str "back"]] = some (.rt (.bl false), []) := g
    have s := srt [] (by simp)
    simp only [List.map_cons, List.map_nil] at s t1
    simp only [f_ways_of, b_ways_of, eqD_i, neD_i, adD_i, vr0, vr1, vr2, vr3, vr4, vr5, vr6, vr7, vr8, vr9, vr10, vr11, vr12, vr13, vr14, vr15, vr16, vr17, vr18, vr19, vr20, vr21, vr22, vr23, put0, put1, put2, put3, put4, put5, put6, put7, put8, put9, put10, put11, put12, put13, put14, put15, put16, put17, put18, put19, put20, put21, put22, put23, onL0, onL1, onL2, onL3, onL4, onL5, onL6, onL7, onL8, onL9, onL10, onL11, onL12, onL13, onL14, onL15, onL16, onL17, onL18, onL19, onL20, onL21, onL22, onL23, isL0, isL1, isL2, isL3, isL4, isL5, isL6, isL7, isL8, isL9, isL10, isL11, isL12, isL13, isL14, isL15, isL16, isL17, isL18, isL19, isL20, isL21, isL22, isL23, mv0, mv1, mv2, mv3, mv4, mv5, mv6, mv7, mv8, mv9, mv10, mv11, mv12, mv13, mv14, mv15, mv16, mv17, mv18, mv19, mv20, mv21, mv22, mv23, oC0, oC1, oC2, oC3, oC4, oC5, oC6, oC7, ls0, ls1, ls2, ls3, ls4, ls5, ls6, ls7, ls8, ls9, ls10, ls11, ls12, tp0, tp1, tp2, tp3, tp4, tp5, tp6, tp7, tp8, tp9, tp10, tp11, tp12, Py.c0, Py.b1, Py.b2, Py.b3, Py.bA, Py.a0, Py.a1, Py.tb, Py.p2i, Py.qDo, Py.q1, Py.qIf, Py.qRt, Py.q0, Py.qAp, Py.mkF, Py.sbI, Py.ixD, Py.cpI, Py.asB, Py.truD, Py.tN, Py.tA, Py.tO, Py.vA, Py.vO, Py.vN, Py.cI, Py.iB, Py.ia0, Py.ia1, Py.iaM, Py.imD, Py.ngI, Py.liD, Py.tuD, Py.intD, Py.maxD, Py.minD, Py.sq, Py.flt, Py.ch, Py.itD, Py.itA, Py.asS, Option.bind_some, Option.bind_none, Option.map_some, Option.map_none, List.map_cons, List.map_nil, List.cons_append, List.nil_append, List.length_cons, List.length_nil, List.replicate, Int.reduceLT, Int.reduceLE, Int.reduceGT, Int.reduceGE, Int.reduceEq, Int.reduceNe, Int.reduceAdd, Int.reduceSub, Int.reduceMul, Int.reduceNeg, Int.reduceMod, Int.reduceDiv, Nat.reduceAdd, Nat.reduceLT, decide_true, decide_false, if_true, if_false, reduceIte, and_self, and_true, true_and, or_true, true_or, or_false, false_or, not_true_eq_false, not_false_eq_true, Bool.not_true, Bool.not_false, Bool.false_eq_true, Py.cD, List.append_nil, a, t1, g', s]
    rfl
  | jump =>
    have t2' : ts = [0] := by rw [t2]; decide
    subst t2'
    have g' : f_goes_on [.tup [.str "jump", .int 0, .int (if f then 1 else 0)]] = some (.rt (.bl false), []) := g
    have s := srt [0] (by simp)
    simp only [List.map_cons, List.map_nil] at s t1
    generalize (D.tup [.str "jump", .int 0, .int (if f then 1 else 0)]) = d at *
    simp only [f_ways_of, b_ways_of, eqD_i, neD_i, adD_i, vr0, vr1, vr2, vr3, vr4, vr5, vr6, vr7, vr8, vr9, vr10, vr11, vr12, vr13, vr14, vr15, vr16, vr17, vr18, vr19, vr20, vr21, vr22, vr23, put0, put1, put2, put3, put4, put5, put6, put7, put8, put9, put10, put11, put12, put13, put14, put15, put16, put17, put18, put19, put20, put21, put22, put23, onL0, onL1, onL2, onL3, onL4, onL5, onL6, onL7, onL8, onL9, onL10, onL11, onL12, onL13, onL14, onL15, onL16, onL17, onL18, onL19, onL20, onL21, onL22, onL23, isL0, isL1, isL2, isL3, isL4, isL5, isL6, isL7, isL8, isL9, isL10, isL11, isL12, isL13, isL14, isL15, isL16, isL17, isL18, isL19, isL20, isL21, isL22, isL23, mv0, mv1, mv2, mv3, mv4, mv5, mv6, mv7, mv8, mv9, mv10, mv11, mv12, mv13, mv14, mv15, mv16, mv17, mv18, mv19, mv20, mv21, mv22, mv23, oC0, oC1, oC2, oC3, oC4, oC5, oC6, oC7, ls0, ls1, ls2, ls3, ls4, ls5, ls6, ls7, ls8, ls9, ls10, ls11, ls12, tp0, tp1, tp2, tp3, tp4, tp5, tp6, tp7, tp8, tp9, tp10, tp11, tp12, Py.c0, Py.b1, Py.b2, Py.b3, Py.bA, Py.a0, Py.a1, Py.tb, Py.p2i, Py.qDo, Py.q1, Py.qIf, Py.qRt, Py.q0, Py.qAp, Py.mkF, Py.sbI, Py.ixD, Py.cpI, Py.asB, Py.truD, Py.tN, Py.tA, Py.tO, Py.vA, Py.vO, Py.vN, Py.cI, Py.iB, Py.ia0, Py.ia1, Py.iaM, Py.imD, Py.ngI, Py.liD, Py.tuD, Py.intD, Py.maxD, Py.minD, Py.sq, Py.flt, Py.ch, Py.itD, Py.itA, Py.asS, Option.bind_some, Option.bind_none, Option.map_some, Option.map_none, List.map_cons, List.map_nil, List.cons_append, List.nil_append, List.length_cons, List.length_nil, List.replicate, Int.reduceLT, Int.reduceLE, Int.reduceGT, Int.reduceGE, Int.reduceEq, Int.reduceNe, Int.reduceAdd, Int.reduceSub, Int.reduceMul, Int.reduceNeg, Int.reduceMod, Int.reduceDiv, Nat.reduceAdd, Nat.reduceLT, decide_true, decide_false, if_true, if_false, reduceIte, and_self, and_true, true_and, or_true, true_or, or_false, false_or, not_true_eq_false, not_false_eq_true, Bool.not_true, Bool.not_false, Bool.false_eq_true, Py.cD, List.append_nil, a, t1, g', s]
    rfl
  | zero b =>
    have t2' : ts = [1] := by rw [t2]; decide
    subst t2'
    have g' : f_goes_on [.tup [.str "zero", .int b, .int 1, .int (if f then 0 else 1)]] = some (.rt (.bl true), []) := g
    have s := srt [1, (i : Int) + 1] (by simp)
    have ap := ap_len (x := .int ((i : Int) + 1)) (xs := [.int 1]) (by simp)
    have e : sdd [1, (i : Int) + 1] = wys "zero" i := by
      by_cases q : i = 0
      · subst q
        show _ = [1]
        decide
      · have e2 : wys "zero" i = [1, (i : Int) + 1] := by
          show (if i = 0 then _ else _) = _
          rw [if_neg q]
        rw [e2]
        exact sdd2 _ (by omega)
    rw [e] at s
    simp only [List.map_cons, List.map_nil, List.cons_append, List.nil_append] at s t1 ap
    generalize (D.tup [.str "zero", .int b, .int 1, .int (if f then 0 else 1)]) = d at *
    simp only [f_ways_of, b_ways_of, eqD_i, neD_i, adD_i, vr0, vr1, vr2, vr3, vr4, vr5, vr6, vr7, vr8, vr9, vr10, vr11, vr12, vr13, vr14, vr15, vr16, vr17, vr18, vr19, vr20, vr21, vr22, vr23, put0, put1, put2, put3, put4, put5, put6, put7, put8, put9, put10, put11, put12, put13, put14, put15, put16, put17, put18, put19, put20, put21, put22, put23, onL0, onL1, onL2, onL3, onL4, onL5, onL6, onL7, onL8, onL9, onL10, onL11, onL12, onL13, onL14, onL15, onL16, onL17, onL18, onL19, onL20, onL21, onL22, onL23, isL0, isL1, isL2, isL3, isL4, isL5, isL6, isL7, isL8, isL9, isL10, isL11, isL12, isL13, isL14, isL15, isL16, isL17, isL18, isL19, isL20, isL21, isL22, isL23, mv0, mv1, mv2, mv3, mv4, mv5, mv6, mv7, mv8, mv9, mv10, mv11, mv12, mv13, mv14, mv15, mv16, mv17, mv18, mv19, mv20, mv21, mv22, mv23, oC0, oC1, oC2, oC3, oC4, oC5, oC6, oC7, ls0, ls1, ls2, ls3, ls4, ls5, ls6, ls7, ls8, ls9, ls10, ls11, ls12, tp0, tp1, tp2, tp3, tp4, tp5, tp6, tp7, tp8, tp9, tp10, tp11, tp12, Py.c0, Py.b1, Py.b2, Py.b3, Py.bA, Py.a0, Py.a1, Py.tb, Py.p2i, Py.qDo, Py.q1, Py.qIf, Py.qRt, Py.q0, Py.qAp, Py.mkF, Py.sbI, Py.ixD, Py.cpI, Py.asB, Py.truD, Py.tN, Py.tA, Py.tO, Py.vA, Py.vO, Py.vN, Py.cI, Py.iB, Py.ia0, Py.ia1, Py.iaM, Py.imD, Py.ngI, Py.liD, Py.tuD, Py.intD, Py.maxD, Py.minD, Py.sq, Py.flt, Py.ch, Py.itD, Py.itA, Py.asS, Option.bind_some, Option.bind_none, Option.map_some, Option.map_none, List.map_cons, List.map_nil, List.cons_append, List.nil_append, List.length_cons, List.length_nil, List.replicate, Int.reduceLT, Int.reduceLE, Int.reduceGT, Int.reduceGE, Int.reduceEq, Int.reduceNe, Int.reduceAdd, Int.reduceSub, Int.reduceMul, Int.reduceNeg, Int.reduceMod, Int.reduceDiv, Nat.reduceAdd, Nat.reduceLT, decide_true, decide_false, if_true, if_false, reduceIte, and_self, and_true, true_and, or_true, true_or, or_false, false_or, not_true_eq_false, not_false_eq_true, Bool.not_true, Bool.not_false, Bool.false_eq_true, Py.cD, List.append_nil, a, t1, g', ap, s]
end K73

set_option Elab.async false
set_option linter.all false
set_option maxRecDepth 100000
set_option maxHeartbeats 4000000
namespace K73
open PySem PySem.Spec PyProof.Rows L2 Py
def IsW (w : Str) : Prop := w = "stop" ∨ w = "back" ∨ w = "jump" ∨ w = "zero"
theorem Rw.tup {f : Bool} {w : Str} {d : D} (h : Rw f w d) : ∃ rest, d = .tup (.str w :: rest) := by cases h <;> exact ⟨_, rfl⟩
theorem Rw.eqw {f : Bool} {w w' : Str} {d : D} (h : Rw f w' d) (hw : IsW w) : eqD (.str w') (.str w) = some (.bl (decide (w' = w))) := by
  cases h <;> (rcases hw with rfl | rfl | rfl | rfl <;> kernel_rfl)
theorem Rw.sz {f : Bool} {w : Str} {d : D} (h : Rw f w d) : inD false (.str w) (.tup [.str "set", .str "zero"]) = some (.bl (decide (w = "set" ∨ w = "zero"))) := by
  cases h <;> kernel_rfl
abbrev s0 : D := .tup [.str "stop"]
abbrev j0 : D := .tup [.str "jump", .int 0, .int 0]
abbrev z0 (b : Int) : D := .tup [.str "zero", .int b, .int 1, .int 1]
theorem inD2_ok {j : Nat} {d : D} {rows : List D} (h : j ≤ 1000) (h2 : rows.length ≤ 1000) : inD2 (.int (j : Int)) d (.lst rows) = some (.lst (rows.take j ++ [d] ++ rows.drop j)) := by
  have c : 0 ≤ (j : Int) ∧ (j : Int).natAbs < 4611686018427387904 ∧ rows.length < sizeLine := ⟨by omega, by omega, by rw [sizeLine_eq]; omega⟩
  simp only [inD2, c, and_self, if_true, Int.toNat_natCast]
structure Pg (R : List D) : Prop where
  rw_ : ∀ d ∈ R, ∃ w, Rw false w d
  lo : 4 ≤ R.length
  hi : R.length ≤ 14
  stop : ∃ d ∈ R, Rw false "stop" d
  back : ∃ d ∈ R, Rw false "back" d
  jump : ∃ d ∈ R, Rw false "jump" d
  zero : ∃ d ∈ R, Rw false "zero" d
  end_ : ∃ init l w, R = init ++ [l] ∧ Rw false w l ∧ w ≠ "set" ∧ w ≠ "zero"
theorem program (ns : List Int) (hn : ns.length ≤ 63) : ∃ R, f__law_program [.lst (ns.map .int)] = some (.rt (.lst R), []) ∧ Pg R := by
  obtain ⟨c, hc⟩ := cell_at ns 0 (by decide)
  obtain ⟨cs, hcs, sl3⟩ : ∃ cs : List Int, cs.length ≤ 9 ∧ slD (.lst (ns.map .int)) (some 3) (some 12) = some (.lst (cs.map .int)) := by
    refine ⟨((ns.drop (min 3 ns.length)).take (min 12 ns.length - min 3 ns.length)), ?_, ?_⟩
    · rw [List.length_take, List.length_drop]; omega
    · show some (D.lst (cut (ns.map D.int) (some (3 : Nat)) (some (12 : Nat)))) = _
      rw [cut_nn, List.length_map, ← List.map_drop, ← List.map_take]
  have e8 := fun i => md 8 (by decide) i
  have f8 := fun i => fd 8 (by decide) (by decide) i
  have e1000 := fun i => md 1000 (by decide) i
  obtain ⟨ys, y1, y2, y3⟩ := lcL_rel (as := Py.put 2) (fe := bA (Py.a1 (c0 (.str "set")) (Py.a1 (b2 (vr 2) (c0 (.int 8)) mdI) (Py.a1 (b2 (b2 (vr 2) (c0 (.int 8)) fdI) (c0 (.int 1000)) mdI) a0))) tupD) (env := [some (.lst (ns.map .int)), none, none, none]) (R := fun _ y => Rw false "set" y) (cs.map D.int) (fun d hd => by
    obtain ⟨i, _, rfl⟩ := List.mem_map.mp hd
    refine ⟨_, .tup [.str "set", .int (i % 8), .int (i / 8 % 1000)], put2, ?_, .set _ _⟩
    simp only [eqD_i, neD_i, adD_i, vr0, vr1, vr2, vr3, vr4, vr5, vr6, vr7, vr8, vr9, vr10, vr11, vr12, vr13, vr14, vr15, vr16, vr17, vr18, vr19, vr20, vr21, vr22, vr23, put0, put1, put2, put3, put4, put5, put6, put7, put8, put9, put10, put11, put12, put13, put14, put15, put16, put17, put18, put19, put20, put21, put22, put23, onL0, onL1, onL2, onL3, onL4, onL5, onL6, onL7, onL8, onL9, onL10, onL11, onL12, onL13, onL14, onL15, onL16, onL17, onL18, onL19, onL20, onL21, onL22, onL23, isL0, isL1, isL2, isL3, isL4, isL5, isL6, isL7, isL8, isL9, isL10, isL11, isL12, isL13, isL14, isL15, isL16, isL17, isL18, isL19, isL20, isL21, isL22, isL23, mv0, mv1, mv2, mv3, mv4, mv5, mv6, mv7, mv8, mv9, mv10, mv11, mv12, mv13, mv14, mv15, mv16, mv17, mv18, mv19, mv20, mv21, mv22, mv23, oC0, oC1, oC2, oC3, oC4, oC5, oC6, oC7, ls0, ls1, ls2, ls3, ls4, ls5, ls6, ls7, ls8, ls9, ls10, ls11, ls12, tp0, tp1, tp2, tp3, tp4, tp5, tp6, tp7, tp8, tp9, tp10, tp11, tp12, Py.c0, Py.b1, Py.b2, Py.b3, Py.bA, Py.a0, Py.a1, Py.tb, Py.p2i, Py.qDo, Py.q1, Py.qIf, Py.qRt, Py.q0, Py.qAp, Py.mkF, Py.sbI, Py.ixD, Py.cpI, Py.asB, Py.truD, Py.tN, Py.tA, Py.tO, Py.vA, Py.vO, Py.vN, Py.cI, Py.iB, Py.ia0, Py.ia1, Py.iaM, Py.imD, Py.ngI, Py.liD, Py.tuD, Py.intD, Py.maxD, Py.minD, Py.sq, Py.flt, Py.ch, Py.itD, Py.itA, Py.asS, Option.bind_some, Option.bind_none, Option.map_some, Option.map_none, List.map_cons, List.map_nil, List.cons_append, List.nil_append, List.length_cons, List.length_nil, List.replicate, Int.reduceLT, Int.reduceLE, Int.reduceGT, Int.reduceGE, Int.reduceEq, Int.reduceNe, Int.reduceAdd, Int.reduceSub, Int.reduceMul, Int.reduceNeg, Int.reduceMod, Int.reduceDiv, Nat.reduceAdd, Nat.reduceLT, decide_true, decide_false, if_true, if_false, reduceIte, and_self, and_true, true_and, or_true, true_or, or_false, false_or, not_true_eq_false, not_false_eq_true, Bool.not_true, Bool.not_false, Bool.false_eq_true, e8, f8, e1000])
  rw [List.length_map] at y2
  have yr : ∀ d ∈ ys, ∃ w, Rw false w d := fun d hd => by
    obtain ⟨i, hi⟩ := List.mem_iff_getElem?.mp hd
    have hi2 := (List.getElem?_eq_some_iff.mp hi).1
    exact ⟨_, y3 i (.int (cs[i]'(by omega))) d (by rw [List.getElem?_map, List.getElem?_eq_getElem (by omega)]; rfl) hi⟩
  have yz := ls_len (xs := ys) (by omega)
  have L4 : ∀ d ∈ [s0, .tup [.str "back"], j0, z0 (c % 8)], ∃ w, Rw false w d := fun d hd => by
    simp only [List.mem_cons, List.not_mem_nil, or_false] at hd
    rcases hd with rfl | rfl | rfl | rfl
    · exact ⟨_, .stop⟩
    · exact ⟨_, .back⟩
    · exact ⟨_, .jump⟩
    · exact ⟨_, .zero _⟩
  obtain ⟨env', f1, rows, c2, x3, r1, r2, r3, rfl⟩ := for_at (as := Py.put 3) (b := l0__law_program) (I := fun i env => ∃ (rows : List D) (c2 : Int) (x3 : Option D), (∀ d ∈ rows, ∃ w, Rw false w d) ∧ rows.length = ys.length + i ∧ (∀ j d, j < i → [s0, .tup [.str "back"], j0, z0 (c % 8)][j]? = some d → d ∈ rows) ∧ env = [some (.lst (ns.map .int)), some (.lst rows), some (.int c2), x3])
    [s0, .tup [.str "back"], j0, z0 (c % 8)] 0 [some (.lst (ns.map .int)), some (.lst ys), some (.int c), none] (fun i env d hd => by
      rintro ⟨rows, c2, x3, r1, r2, r3, rfl⟩
      have hi : i < 4 := by have := (List.getElem?_eq_some_iff.mp hd).1; simpa using this
      have el : ((rows.length : Nat) : Int) + 1 = ((rows.length + 1 : Nat) : Int) := by omega
      have eM := md ((rows.length + 1 : Nat) : Int) (by omega) (c2 / 8)
      obtain ⟨j, hj⟩ := Int.eq_ofNat_of_zero_le (emod_b (c2 / 8) (show (0 : Int) < ((rows.length + 1 : Nat) : Int) by omega)).1
      have hj2 : j < rows.length + 1 := by have := (emod_b (c2 / 8) (show (0 : Int) < ((rows.length + 1 : Nat) : Int) by omega)).2; omega
      rw [hj] at eM
      have ins : inD2 (.int (j : Int)) d (.lst rows) = some (.lst (rows.take j ++ [d] ++ rows.drop j)) := by
        exact inD2_ok (by omega) (by omega)
      refine ⟨_, put3, [some (.lst (ns.map .int)), some (.lst (rows.take j ++ [d] ++ rows.drop j)), some (.int (c2 / 8)), some d], .inl ?_, rows.take j ++ [d] ++ rows.drop j, c2 / 8, some d, fun x hx => ?_, ?_, fun k x hk hx => ?_, rfl⟩
      · generalize rows.take j ++ [d] ++ rows.drop j = R2 at *
        simp only [l0__law_program, eqD_i, neD_i, adD_i, vr0, vr1, vr2, vr3, vr4, vr5, vr6, vr7, vr8, vr9, vr10, vr11, vr12, vr13, vr14, vr15, vr16, vr17, vr18, vr19, vr20, vr21, vr22, vr23, put0, put1, put2, put3, put4, put5, put6, put7, put8, put9, put10, put11, put12, put13, put14, put15, put16, put17, put18, put19, put20, put21, put22, put23, onL0, onL1, onL2, onL3, onL4, onL5, onL6, onL7, onL8, onL9, onL10, onL11, onL12, onL13, onL14, onL15, onL16, onL17, onL18, onL19, onL20, onL21, onL22, onL23, isL0, isL1, isL2, isL3, isL4, isL5, isL6, isL7, isL8, isL9, isL10, isL11, isL12, isL13, isL14, isL15, isL16, isL17, isL18, isL19, isL20, isL21, isL22, isL23, mv0, mv1, mv2, mv3, mv4, mv5, mv6, mv7, mv8, mv9, mv10, mv11, mv12, mv13, mv14, mv15, mv16, mv17, mv18, mv19, mv20, mv21, mv22, mv23, oC0, oC1, oC2, oC3, oC4, oC5, oC6, oC7, ls0, ls1, ls2, ls3, ls4, ls5, ls6, ls7, ls8, ls9, ls10, ls11, ls12, tp0, tp1, tp2, tp3, tp4, tp5, tp6, tp7, tp8, tp9, tp10, tp11, tp12, Py.c0, Py.b1, Py.b2, Py.b3, Py.bA, Py.a0, Py.a1, Py.tb, Py.p2i, Py.qDo, Py.q1, Py.qIf, Py.qRt, Py.q0, Py.qAp, Py.mkF, Py.sbI, Py.ixD, Py.cpI, Py.asB, Py.truD, Py.tN, Py.tA, Py.tO, Py.vA, Py.vO, Py.vN, Py.cI, Py.iB, Py.ia0, Py.ia1, Py.iaM, Py.imD, Py.ngI, Py.liD, Py.tuD, Py.intD, Py.maxD, Py.minD, Py.sq, Py.flt, Py.ch, Py.itD, Py.itA, Py.asS, Option.bind_some, Option.bind_none, Option.map_some, Option.map_none, List.map_cons, List.map_nil, List.cons_append, List.nil_append, List.length_cons, List.length_nil, List.replicate, Int.reduceLT, Int.reduceLE, Int.reduceGT, Int.reduceGE, Int.reduceEq, Int.reduceNe, Int.reduceAdd, Int.reduceSub, Int.reduceMul, Int.reduceNeg, Int.reduceMod, Int.reduceDiv, Nat.reduceAdd, Nat.reduceLT, decide_true, decide_false, if_true, if_false, reduceIte, and_self, and_true, true_and, or_true, true_or, or_false, false_or, not_true_eq_false, not_false_eq_true, Bool.not_true, Bool.not_false, Bool.false_eq_true, Py.qPl, Py.pv, List.set_cons_succ, List.set_cons_zero, f8, len_l, el, eM, ins]
      · rcases List.mem_append.mp hx with z | z
        · rcases List.mem_append.mp z with z | z
          · exact r1 x (List.mem_of_mem_take z)
          · rw [List.mem_singleton.mp z]; exact L4 d (List.mem_of_getElem? hd)
        · exact r1 x (List.mem_of_mem_drop z)
      · rw [List.length_append, List.length_append, List.length_take, List.length_drop, List.length_singleton]
        omega
      · by_cases q : k = i
        · rw [q, hd] at hx
          cases hx
          simp
        · have := r3 k x (by omega) hx
          rw [← List.take_append_drop j rows] at this
          rcases List.mem_append.mp this with z | z
          · exact List.mem_append_left _ (List.mem_append_left _ z)
          · exact List.mem_append_right _ z) ⟨ys, c, none, yr, rfl, fun j d h => by omega, rfl⟩
  have r2' : rows.length = ys.length + 4 := r2
  have ne : rows ≠ [] := fun z => by rw [z] at r2'; simp at r2'
  obtain ⟨init, l, hil⟩ : ∃ init l, rows = init ++ [l] := ⟨rows.dropLast, rows.getLast ne, (List.dropLast_concat_getLast ne).symm⟩
  obtain ⟨w, hw⟩ := r1 l (by rw [hil]; simp)
  obtain ⟨rest, hrest⟩ := hw.tup
  have m1 : atI rows (-1) = some (.tup (.str w :: rest)) := by rw [hil, ← hrest]; exact at_m1
  have at0 : atI (D.str w :: rest) 0 = some (.str w) := at_nat (xs := D.str w :: rest) (i := 0) (by simp)
  have sz := hw.sz
  have m_ : ∀ j d, [s0, .tup [.str "back"], j0, z0 (c % 8)][j]? = some d → d ∈ rows := fun j d hd => r3 j d (by have := (List.getElem?_eq_some_iff.mp hd).1; simpa using this) hd
  by_cases q : w = "set" ∨ w = "zero"
  · have ap := ap_len (x := s0) (xs := rows) (by omega)
    refine ⟨rows ++ [s0], ?_, ⟨fun d hd => ?_, by rw [List.length_append]; simp; omega, by rw [List.length_append]; simp; omega, ⟨s0, by simp, .stop⟩, ⟨_, List.mem_append_left _ (m_ 1 _ rfl), .back⟩, ⟨_, List.mem_append_left _ (m_ 2 _ rfl), .jump⟩, ⟨_, List.mem_append_left _ (m_ 3 _ rfl), .zero _⟩, rows, s0, _, rfl, .stop, by decide, by decide⟩⟩
    · rw [decide_eq_true q] at sz
      simp only [f__law_program, b__law_program, eqD_i, neD_i, adD_i, vr0, vr1, vr2, vr3, vr4, vr5, vr6, vr7, vr8, vr9, vr10, vr11, vr12, vr13, vr14, vr15, vr16, vr17, vr18, vr19, vr20, vr21, vr22, vr23, put0, put1, put2, put3, put4, put5, put6, put7, put8, put9, put10, put11, put12, put13, put14, put15, put16, put17, put18, put19, put20, put21, put22, put23, onL0, onL1, onL2, onL3, onL4, onL5, onL6, onL7, onL8, onL9, onL10, onL11, onL12, onL13, onL14, onL15, onL16, onL17, onL18, onL19, onL20, onL21, onL22, onL23, isL0, isL1, isL2, isL3, isL4, isL5, isL6, isL7, isL8, isL9, isL10, isL11, isL12, isL13, isL14, isL15, isL16, isL17, isL18, isL19, isL20, isL21, isL22, isL23, mv0, mv1, mv2, mv3, mv4, mv5, mv6, mv7, mv8, mv9, mv10, mv11, mv12, mv13, mv14, mv15, mv16, mv17, mv18, mv19, mv20, mv21, mv22, mv23, oC0, oC1, oC2, oC3, oC4, oC5, oC6, oC7, ls0, ls1, ls2, ls3, ls4, ls5, ls6, ls7, ls8, ls9, ls10, ls11, ls12, tp0, tp1, tp2, tp3, tp4, tp5, tp6, tp7, tp8, tp9, tp10, tp11, tp12, Py.c0, Py.b1, Py.b2, Py.b3, Py.bA, Py.a0, Py.a1, Py.tb, Py.p2i, Py.qDo, Py.q1, Py.qIf, Py.qRt, Py.q0, Py.qAp, Py.mkF, Py.sbI, Py.ixD, Py.cpI, Py.asB, Py.truD, Py.tN, Py.tA, Py.tO, Py.vA, Py.vO, Py.vN, Py.cI, Py.iB, Py.ia0, Py.ia1, Py.iaM, Py.imD, Py.ngI, Py.liD, Py.tuD, Py.intD, Py.maxD, Py.minD, Py.sq, Py.flt, Py.ch, Py.itD, Py.itA, Py.asS, Option.bind_some, Option.bind_none, Option.map_some, Option.map_none, List.map_cons, List.map_nil, List.cons_append, List.nil_append, List.length_cons, List.length_nil, List.replicate, Int.reduceLT, Int.reduceLE, Int.reduceGT, Int.reduceGE, Int.reduceEq, Int.reduceNe, Int.reduceAdd, Int.reduceSub, Int.reduceMul, Int.reduceNeg, Int.reduceMod, Int.reduceDiv, Nat.reduceAdd, Nat.reduceLT, decide_true, decide_false, if_true, if_false, reduceIte, and_self, and_true, true_and, or_true, true_or, or_false, false_or, not_true_eq_false, not_false_eq_true, Bool.not_true, Bool.not_false, Bool.false_eq_true, Py.cD, List.append_nil, Py.oS, Py.oN, Py.asI, Py.lcF, Py.wipeE, List.foldr, List.set_cons_succ, List.set_cons_zero, Py.itD, Py.asS, sl3, y1, yz, hc, e8, Py.qFor, f1, m1, at0, sz, ap]
    · rcases List.mem_append.mp hd with z | z
      · exact r1 d z
      · rw [List.mem_singleton.mp z]; exact ⟨_, .stop⟩
  · refine ⟨rows, ?_, ⟨r1, by omega, by omega, ⟨_, m_ 0 _ rfl, .stop⟩, ⟨_, m_ 1 _ rfl, .back⟩, ⟨_, m_ 2 _ rfl, .jump⟩, ⟨_, m_ 3 _ rfl, .zero _⟩, init, l, w, hil, hw, fun z => q (.inl z), fun z => q (.inr z)⟩⟩
    rw [decide_eq_false q] at sz
    simp only [f__law_program, b__law_program, eqD_i, neD_i, adD_i, vr0, vr1, vr2, vr3, vr4, vr5, vr6, vr7, vr8, vr9, vr10, vr11, vr12, vr13, vr14, vr15, vr16, vr17, vr18, vr19, vr20, vr21, vr22, vr23, put0, put1, put2, put3, put4, put5, put6, put7, put8, put9, put10, put11, put12, put13, put14, put15, put16, put17, put18, put19, put20, put21, put22, put23, onL0, onL1, onL2, onL3, onL4, onL5, onL6, onL7, onL8, onL9, onL10, onL11, onL12, onL13, onL14, onL15, onL16, onL17, onL18, onL19, onL20, onL21, onL22, onL23, isL0, isL1, isL2, isL3, isL4, isL5, isL6, isL7, isL8, isL9, isL10, isL11, isL12, isL13, isL14, isL15, isL16, isL17, isL18, isL19, isL20, isL21, isL22, isL23, mv0, mv1, mv2, mv3, mv4, mv5, mv6, mv7, mv8, mv9, mv10, mv11, mv12, mv13, mv14, mv15, mv16, mv17, mv18, mv19, mv20, mv21, mv22, mv23, oC0, oC1, oC2, oC3, oC4, oC5, oC6, oC7, ls0, ls1, ls2, ls3, ls4, ls5, ls6, ls7, ls8, ls9, ls10, ls11, ls12, tp0, tp1, tp2, tp3, tp4, tp5, tp6, tp7, tp8, tp9, tp10, tp11, tp12, Py.c0, Py.b1, Py.b2, Py.b3, Py.bA, Py.a0, Py.a1, Py.tb, Py.p2i, Py.qDo, Py.q1, Py.qIf, Py.qRt, Py.q0, Py.qAp, Py.mkF, Py.sbI, Py.ixD, Py.cpI, Py.asB, Py.truD, Py.tN, Py.tA, Py.tO, Py.vA, Py.vO, Py.vN, Py.cI, Py.iB, Py.ia0, Py.ia1, Py.iaM, Py.imD, Py.ngI, Py.liD, Py.tuD, Py.intD, Py.maxD, Py.minD, Py.sq, Py.flt, Py.ch, Py.itD, Py.itA, Py.asS, Option.bind_some, Option.bind_none, Option.map_some, Option.map_none, List.map_cons, List.map_nil, List.cons_append, List.nil_append, List.length_cons, List.length_nil, List.replicate, Int.reduceLT, Int.reduceLE, Int.reduceGT, Int.reduceGE, Int.reduceEq, Int.reduceNe, Int.reduceAdd, Int.reduceSub, Int.reduceMul, Int.reduceNeg, Int.reduceMod, Int.reduceDiv, Nat.reduceAdd, Nat.reduceLT, decide_true, decide_false, if_true, if_false, reduceIte, and_self, and_true, true_and, or_true, true_or, or_false, false_or, not_true_eq_false, not_false_eq_true, Bool.not_true, Bool.not_false, Bool.false_eq_true, Py.cD, List.append_nil, Py.oS, Py.oN, Py.asI, Py.lcF, Py.wipeE, List.foldr, List.set_cons_succ, List.set_cons_zero, Py.itD, Py.asS, sl3, y1, yz, hc, e8, Py.qFor, f1, m1, at0, sz]
def word (d : D) : Str := match d with
  | .tup (.str w :: _) => w
  | _ => ""
theorem Rw.word {f : Bool} {w : Str} {d : D} (h : Rw f w d) : word d = w := by cases h <;> rfl
theorem number {R : List D} (hp : Pg R) {w : Str} (hw : IsW w) (hm : ∃ d ∈ R, Rw false w d) : ∃ (i : Nat) (d : D), f__law_number [.lst R, .str w] = some (.rt (.int (i : Int)), []) ∧ R[i]? = some d ∧ Rw false w d := by
  have rg : rg1 [.int (R.length : Int)] = some (rgX R.length) := rg1_nat (by have := hp.hi; omega)
  have lc := lcL_spec (as := Py.put 2) (tt := tb (b2 (b2 (b2 (vr 0) (vr 2) ixD) (c0 (.int 0)) ixD) (vr 1) eqD) asB) (fe := vr 2) (env := [some (.lst R), some (.str w), none]) (p := fun d => match d with
    | .int i => decide (word (R.getD i.toNat .non) = w)
    | _ => false) (g := fun d => d) (rgX R.length) (fun d hd => by
      obtain ⟨i, hi, rfl⟩ := List.mem_map.mp hd
      have hi := List.mem_range.mp hi
      obtain ⟨w', hw'⟩ := hp.rw_ _ (List.getElem_mem hi)
      have a := at_q (List.getElem?_eq_getElem hi)
      obtain ⟨rest, hr⟩ := hw'.tup
      have wd := hw'.word
      have at0 : atI (D.str w' :: rest) 0 = some (.str w') := at_nat (xs := D.str w' :: rest) (i := 0) (by simp)
      have e := hw'.eqw hw
      refine ⟨_, put2, ?_, fun _ => by simp only [eqD_i, neD_i, adD_i, vr0, vr1, vr2, vr3, vr4, vr5, vr6, vr7, vr8, vr9, vr10, vr11, vr12, vr13, vr14, vr15, vr16, vr17, vr18, vr19, vr20, vr21, vr22, vr23, put0, put1, put2, put3, put4, put5, put6, put7, put8, put9, put10, put11, put12, put13, put14, put15, put16, put17, put18, put19, put20, put21, put22, put23, onL0, onL1, onL2, onL3, onL4, onL5, onL6, onL7, onL8, onL9, onL10, onL11, onL12, onL13, onL14, onL15, onL16, onL17, onL18, onL19, onL20, onL21, onL22, onL23, isL0, isL1, isL2, isL3, isL4, isL5, isL6, isL7, isL8, isL9, isL10, isL11, isL12, isL13, isL14, isL15, isL16, isL17, isL18, isL19, isL20, isL21, isL22, isL23, mv0, mv1, mv2, mv3, mv4, mv5, mv6, mv7, mv8, mv9, mv10, mv11, mv12, mv13, mv14, mv15, mv16, mv17, mv18, mv19, mv20, mv21, mv22, mv23, oC0, oC1, oC2, oC3, oC4, oC5, oC6, oC7, ls0, ls1, ls2, ls3, ls4, ls5, ls6, ls7, ls8, ls9, ls10, ls11, ls12, tp0, tp1, tp2, tp3, tp4, tp5, tp6, tp7, tp8, tp9, tp10, tp11, tp12, Py.c0, Py.b1, Py.b2, Py.b3, Py.bA, Py.a0, Py.a1, Py.tb, Py.p2i, Py.qDo, Py.q1, Py.qIf, Py.qRt, Py.q0, Py.qAp, Py.mkF, Py.sbI, Py.ixD, Py.cpI, Py.asB, Py.truD, Py.tN, Py.tA, Py.tO, Py.vA, Py.vO, Py.vN, Py.cI, Py.iB, Py.ia0, Py.ia1, Py.iaM, Py.imD, Py.ngI, Py.liD, Py.tuD, Py.intD, Py.maxD, Py.minD, Py.sq, Py.flt, Py.ch, Py.itD, Py.itA, Py.asS, Option.bind_some, Option.bind_none, Option.map_some, Option.map_none, List.map_cons, List.map_nil, List.cons_append, List.nil_append, List.length_cons, List.length_nil, List.replicate]⟩
      have gd : R.getD i .non = R[i] := by rw [List.getD_eq_getElem?_getD, List.getElem?_eq_getElem hi]; rfl
      show _ = some (decide (word (R.getD ((i : Nat) : Int).toNat .non) = w))
      rw [Int.toNat_natCast, gd, wd]
      rw [hr] at a
      simp only [eqD_i, neD_i, adD_i, vr0, vr1, vr2, vr3, vr4, vr5, vr6, vr7, vr8, vr9, vr10, vr11, vr12, vr13, vr14, vr15, vr16, vr17, vr18, vr19, vr20, vr21, vr22, vr23, put0, put1, put2, put3, put4, put5, put6, put7, put8, put9, put10, put11, put12, put13, put14, put15, put16, put17, put18, put19, put20, put21, put22, put23, onL0, onL1, onL2, onL3, onL4, onL5, onL6, onL7, onL8, onL9, onL10, onL11, onL12, onL13, onL14, onL15, onL16, onL17, onL18, onL19, onL20, onL21, onL22, onL23, isL0, isL1, isL2, isL3, isL4, isL5, isL6, isL7, isL8, isL9, isL10, isL11, isL12, isL13, isL14, isL15, isL16, isL17, isL18, isL19, isL20, isL21, isL22, isL23, mv0, mv1, mv2, mv3, mv4, mv5, mv6, mv7, mv8, mv9, mv10, mv11, mv12, mv13, mv14, mv15, mv16, mv17, mv18, mv19, mv20, mv21, mv22, mv23, oC0, oC1, oC2, oC3, oC4, oC5, oC6, oC7, ls0, ls1, ls2, ls3, ls4, ls5, ls6, ls7, ls8, ls9, ls10, ls11, ls12, tp0, tp1, tp2, tp3, tp4, tp5, tp6, tp7, tp8, tp9, tp10, tp11, tp12, Py.c0, Py.b1, Py.b2, Py.b3, Py.bA, Py.a0, Py.a1, Py.tb, Py.p2i, Py.qDo, Py.q1, Py.qIf, Py.qRt, Py.q0, Py.qAp, Py.mkF, Py.sbI, Py.ixD, Py.cpI, Py.asB, Py.truD, Py.tN, Py.tA, Py.tO, Py.vA, Py.vO, Py.vN, Py.cI, Py.iB, Py.ia0, Py.ia1, Py.iaM, Py.imD, Py.ngI, Py.liD, Py.tuD, Py.intD, Py.maxD, Py.minD, Py.sq, Py.flt, Py.ch, Py.itD, Py.itA, Py.asS, Option.bind_some, Option.bind_none, Option.map_some, Option.map_none, List.map_cons, List.map_nil, List.cons_append, List.nil_append, List.length_cons, List.length_nil, List.replicate, Int.reduceLT, Int.reduceLE, Int.reduceGT, Int.reduceGE, Int.reduceEq, Int.reduceNe, Int.reduceAdd, Int.reduceSub, Int.reduceMul, Int.reduceNeg, Int.reduceMod, Int.reduceDiv, Nat.reduceAdd, Nat.reduceLT, decide_true, decide_false, if_true, if_false, reduceIte, and_self, and_true, true_and, or_true, true_or, or_false, false_or, not_true_eq_false, not_false_eq_true, Bool.not_true, Bool.not_false, Bool.false_eq_true, a, at0, e])
  rw [List.map_id'] at lc
  obtain ⟨d0, hd0, hd1⟩ := hm
  obtain ⟨i0, hi0⟩ := List.mem_iff_getElem?.mp hd0
  have hi1 := (List.getElem?_eq_some_iff.mp hi0).1
  have hin : D.int (i0 : Int) ∈ (rgX R.length).filter (fun d => match d with
    | .int i => decide (word (R.getD i.toNat .non) = w)
    | _ => false) := by
    refine List.mem_filter.mpr ⟨List.mem_map.mpr ⟨i0, List.mem_range.mpr hi1, rfl⟩, ?_⟩
    show decide (word (R.getD ((i0 : Nat) : Int).toNat .non) = w) = true
    rw [Int.toNat_natCast, List.getD_eq_getElem?_getD, hi0]
    exact decide_eq_true hd1.word
  generalize hF : (rgX R.length).filter (fun d => match d with
    | .int i => decide (word (R.getD i.toNat .non) = w)
    | _ => false) = F at *
  cases F with
  | nil => cases hin
  | cons x xs =>
    have hx : x ∈ x :: xs := by simp
    rw [← hF] at hx
    obtain ⟨h1, h2⟩ := List.mem_filter.mp hx
    obtain ⟨i, hi, rfl⟩ := List.mem_map.mp h1
    have hi := List.mem_range.mp hi
    obtain ⟨w', hw'⟩ := hp.rw_ _ (List.getElem_mem hi)
    have h2' : decide (word (R.getD ((i : Nat) : Int).toNat .non) = w) = true := h2
    rw [Int.toNat_natCast, List.getD_eq_getElem?_getD, List.getElem?_eq_getElem hi] at h2'
    have h3 : word R[i] = w := of_decide_eq_true h2'
    rw [hw'.word] at h3
    subst h3
    refine ⟨i, R[i], ?_, List.getElem?_eq_getElem hi, hw'⟩
    have fl : (D.int (i : Int) :: xs).length ≤ 16777216 := by
      rw [← hF]
      refine Nat.le_trans (List.length_filter_le _ _) ?_
      rw [rgX_len]
      have := hp.hi
      omega
    have lz := ls_len fl
    have at0 : atI (D.int (i : Int) :: xs) 0 = some (.int (i : Int)) := at_nat (xs := D.int (i : Int) :: xs) (i := 0) (by simp)
    simp only [f__law_number, b__law_number, eqD_i, neD_i, adD_i, vr0, vr1, vr2, vr3, vr4, vr5, vr6, vr7, vr8, vr9, vr10, vr11, vr12, vr13, vr14, vr15, vr16, vr17, vr18, vr19, vr20, vr21, vr22, vr23, put0, put1, put2, put3, put4, put5, put6, put7, put8, put9, put10, put11, put12, put13, put14, put15, put16, put17, put18, put19, put20, put21, put22, put23, onL0, onL1, onL2, onL3, onL4, onL5, onL6, onL7, onL8, onL9, onL10, onL11, onL12, onL13, onL14, onL15, onL16, onL17, onL18, onL19, onL20, onL21, onL22, onL23, isL0, isL1, isL2, isL3, isL4, isL5, isL6, isL7, isL8, isL9, isL10, isL11, isL12, isL13, isL14, isL15, isL16, isL17, isL18, isL19, isL20, isL21, isL22, isL23, mv0, mv1, mv2, mv3, mv4, mv5, mv6, mv7, mv8, mv9, mv10, mv11, mv12, mv13, mv14, mv15, mv16, mv17, mv18, mv19, mv20, mv21, mv22, mv23, oC0, oC1, oC2, oC3, oC4, oC5, oC6, oC7, ls0, ls1, ls2, ls3, ls4, ls5, ls6, ls7, ls8, ls9, ls10, ls11, ls12, tp0, tp1, tp2, tp3, tp4, tp5, tp6, tp7, tp8, tp9, tp10, tp11, tp12, Py.c0, Py.b1, Py.b2, Py.b3, Py.bA, Py.a0, Py.a1, Py.tb, Py.p2i, Py.qDo, Py.q1, Py.qIf, Py.qRt, Py.q0, Py.qAp, Py.mkF, Py.sbI, Py.ixD, Py.cpI, Py.asB, Py.truD, Py.tN, Py.tA, Py.tO, Py.vA, Py.vO, Py.vN, Py.cI, Py.iB, Py.ia0, Py.ia1, Py.iaM, Py.imD, Py.ngI, Py.liD, Py.tuD, Py.intD, Py.maxD, Py.minD, Py.sq, Py.flt, Py.ch, Py.itD, Py.itA, Py.asS, Option.bind_some, Option.bind_none, Option.map_some, Option.map_none, List.map_cons, List.map_nil, List.cons_append, List.nil_append, List.length_cons, List.length_nil, List.replicate, Int.reduceLT, Int.reduceLE, Int.reduceGT, Int.reduceGE, Int.reduceEq, Int.reduceNe, Int.reduceAdd, Int.reduceSub, Int.reduceMul, Int.reduceNeg, Int.reduceMod, Int.reduceDiv, Nat.reduceAdd, Nat.reduceLT, decide_true, decide_false, if_true, if_false, reduceIte, and_self, and_true, true_and, or_true, true_or, or_false, false_or, not_true_eq_false, not_false_eq_true, Bool.not_true, Bool.not_false, Bool.false_eq_true, len_l, rg, Py.lcF, Py.wipeE, List.foldr, List.set_cons_succ, List.set_cons_zero, lc, lz, at0]
end K73

set_option Elab.async false
set_option linter.all false
set_option maxRecDepth 100000
set_option maxHeartbeats 4000000
namespace K73
open PySem PySem.Spec PyProof.Rows L2 Py
theorem is_from (i lo hi : Int) : f_is_from [.int i, .int lo, .int hi] = some (.rt (.bl (decide (lo ≤ i ∧ i ≤ hi))), []) := by
  have a1' : isD "int" (.int i) = some (.bl true) := by kernel_rfl
  have a2 : isD "bool" (.int i) = some (.bl false) := by kernel_rfl
  by_cases h1 : lo ≤ i
  · by_cases h2 : i ≤ hi
    · simp only [f_is_from, b_is_from, eqD_i, neD_i, adD_i, vr0, vr1, vr2, vr3, vr4, vr5, vr6, vr7, vr8, vr9, vr10, vr11, vr12, vr13, vr14, vr15, vr16, vr17, vr18, vr19, vr20, vr21, vr22, vr23, put0, put1, put2, put3, put4, put5, put6, put7, put8, put9, put10, put11, put12, put13, put14, put15, put16, put17, put18, put19, put20, put21, put22, put23, onL0, onL1, onL2, onL3, onL4, onL5, onL6, onL7, onL8, onL9, onL10, onL11, onL12, onL13, onL14, onL15, onL16, onL17, onL18, onL19, onL20, onL21, onL22, onL23, isL0, isL1, isL2, isL3, isL4, isL5, isL6, isL7, isL8, isL9, isL10, isL11, isL12, isL13, isL14, isL15, isL16, isL17, isL18, isL19, isL20, isL21, isL22, isL23, mv0, mv1, mv2, mv3, mv4, mv5, mv6, mv7, mv8, mv9, mv10, mv11, mv12, mv13, mv14, mv15, mv16, mv17, mv18, mv19, mv20, mv21, mv22, mv23, oC0, oC1, oC2, oC3, oC4, oC5, oC6, oC7, ls0, ls1, ls2, ls3, ls4, ls5, ls6, ls7, ls8, ls9, ls10, ls11, ls12, tp0, tp1, tp2, tp3, tp4, tp5, tp6, tp7, tp8, tp9, tp10, tp11, tp12, Py.c0, Py.b1, Py.b2, Py.b3, Py.bA, Py.a0, Py.a1, Py.tb, Py.p2i, Py.qDo, Py.q1, Py.qIf, Py.qRt, Py.q0, Py.qAp, Py.mkF, Py.sbI, Py.ixD, Py.cpI, Py.asB, Py.truD, Py.tN, Py.tA, Py.tO, Py.vA, Py.vO, Py.vN, Py.cI, Py.iB, Py.ia0, Py.ia1, Py.iaM, Py.imD, Py.ngI, Py.liD, Py.tuD, Py.intD, Py.maxD, Py.minD, Py.sq, Py.flt, Py.ch, Py.itD, Py.itA, Py.asS, Option.bind_some, Option.bind_none, Option.map_some, Option.map_none, List.map_cons, List.map_nil, List.cons_append, List.nil_append, List.length_cons, List.length_nil, List.replicate, Int.reduceLT, Int.reduceLE, Int.reduceGT, Int.reduceGE, Int.reduceEq, Int.reduceNe, Int.reduceAdd, Int.reduceSub, Int.reduceMul, Int.reduceNeg, Int.reduceMod, Int.reduceDiv, Nat.reduceAdd, Nat.reduceLT, decide_true, decide_false, if_true, if_false, reduceIte, and_self, and_true, true_and, or_true, true_or, or_false, false_or, not_true_eq_false, not_false_eq_true, Bool.not_true, Bool.not_false, Bool.false_eq_true, a1', a2, h1, h2]
    · simp only [f_is_from, b_is_from, eqD_i, neD_i, adD_i, vr0, vr1, vr2, vr3, vr4, vr5, vr6, vr7, vr8, vr9, vr10, vr11, vr12, vr13, vr14, vr15, vr16, vr17, vr18, vr19, vr20, vr21, vr22, vr23, put0, put1, put2, put3, put4, put5, put6, put7, put8, put9, put10, put11, put12, put13, put14, put15, put16, put17, put18, put19, put20, put21, put22, put23, onL0, onL1, onL2, onL3, onL4, onL5, onL6, onL7, onL8, onL9, onL10, onL11, onL12, onL13, onL14, onL15, onL16, onL17, onL18, onL19, onL20, onL21, onL22, onL23, isL0, isL1, isL2, isL3, isL4, isL5, isL6, isL7, isL8, isL9, isL10, isL11, isL12, isL13, isL14, isL15, isL16, isL17, isL18, isL19, isL20, isL21, isL22, isL23, mv0, mv1, mv2, mv3, mv4, mv5, mv6, mv7, mv8, mv9, mv10, mv11, mv12, mv13, mv14, mv15, mv16, mv17, mv18, mv19, mv20, mv21, mv22, mv23, oC0, oC1, oC2, oC3, oC4, oC5, oC6, oC7, ls0, ls1, ls2, ls3, ls4, ls5, ls6, ls7, ls8, ls9, ls10, ls11, ls12, tp0, tp1, tp2, tp3, tp4, tp5, tp6, tp7, tp8, tp9, tp10, tp11, tp12, Py.c0, Py.b1, Py.b2, Py.b3, Py.bA, Py.a0, Py.a1, Py.tb, Py.p2i, Py.qDo, Py.q1, Py.qIf, Py.qRt, Py.q0, Py.qAp, Py.mkF, Py.sbI, Py.ixD, Py.cpI, Py.asB, Py.truD, Py.tN, Py.tA, Py.tO, Py.vA, Py.vO, Py.vN, Py.cI, Py.iB, Py.ia0, Py.ia1, Py.iaM, Py.imD, Py.ngI, Py.liD, Py.tuD, Py.intD, Py.maxD, Py.minD, Py.sq, Py.flt, Py.ch, Py.itD, Py.itA, Py.asS, Option.bind_some, Option.bind_none, Option.map_some, Option.map_none, List.map_cons, List.map_nil, List.cons_append, List.nil_append, List.length_cons, List.length_nil, List.replicate, Int.reduceLT, Int.reduceLE, Int.reduceGT, Int.reduceGE, Int.reduceEq, Int.reduceNe, Int.reduceAdd, Int.reduceSub, Int.reduceMul, Int.reduceNeg, Int.reduceMod, Int.reduceDiv, Nat.reduceAdd, Nat.reduceLT, decide_true, decide_false, if_true, if_false, reduceIte, and_self, and_true, true_and, or_true, true_or, or_false, false_or, not_true_eq_false, not_false_eq_true, Bool.not_true, Bool.not_false, Bool.false_eq_true, a1', a2, h1, h2, and_false]
  · simp only [f_is_from, b_is_from, eqD_i, neD_i, adD_i, vr0, vr1, vr2, vr3, vr4, vr5, vr6, vr7, vr8, vr9, vr10, vr11, vr12, vr13, vr14, vr15, vr16, vr17, vr18, vr19, vr20, vr21, vr22, vr23, put0, put1, put2, put3, put4, put5, put6, put7, put8, put9, put10, put11, put12, put13, put14, put15, put16, put17, put18, put19, put20, put21, put22, put23, onL0, onL1, onL2, onL3, onL4, onL5, onL6, onL7, onL8, onL9, onL10, onL11, onL12, onL13, onL14, onL15, onL16, onL17, onL18, onL19, onL20, onL21, onL22, onL23, isL0, isL1, isL2, isL3, isL4, isL5, isL6, isL7, isL8, isL9, isL10, isL11, isL12, isL13, isL14, isL15, isL16, isL17, isL18, isL19, isL20, isL21, isL22, isL23, mv0, mv1, mv2, mv3, mv4, mv5, mv6, mv7, mv8, mv9, mv10, mv11, mv12, mv13, mv14, mv15, mv16, mv17, mv18, mv19, mv20, mv21, mv22, mv23, oC0, oC1, oC2, oC3, oC4, oC5, oC6, oC7, ls0, ls1, ls2, ls3, ls4, ls5, ls6, ls7, ls8, ls9, ls10, ls11, ls12, tp0, tp1, tp2, tp3, tp4, tp5, tp6, tp7, tp8, tp9, tp10, tp11, tp12, Py.c0, Py.b1, Py.b2, Py.b3, Py.bA, Py.a0, Py.a1, Py.tb, Py.p2i, Py.qDo, Py.q1, Py.qIf, Py.qRt, Py.q0, Py.qAp, Py.mkF, Py.sbI, Py.ixD, Py.cpI, Py.asB, Py.truD, Py.tN, Py.tA, Py.tO, Py.vA, Py.vO, Py.vN, Py.cI, Py.iB, Py.ia0, Py.ia1, Py.iaM, Py.imD, Py.ngI, Py.liD, Py.tuD, Py.intD, Py.maxD, Py.minD, Py.sq, Py.flt, Py.ch, Py.itD, Py.itA, Py.asS, Option.bind_some, Option.bind_none, Option.map_some, Option.map_none, List.map_cons, List.map_nil, List.cons_append, List.nil_append, List.length_cons, List.length_nil, List.replicate, Int.reduceLT, Int.reduceLE, Int.reduceGT, Int.reduceGE, Int.reduceEq, Int.reduceNe, Int.reduceAdd, Int.reduceSub, Int.reduceMul, Int.reduceNeg, Int.reduceMod, Int.reduceDiv, Nat.reduceAdd, Nat.reduceLT, decide_true, decide_false, if_true, if_false, reduceIte, and_self, and_true, true_and, or_true, true_or, or_false, false_or, not_true_eq_false, not_false_eq_true, Bool.not_true, Bool.not_false, Bool.false_eq_true, a1', a2, h1, false_and]
/-- no place -/
def NP (R : List D) (d : D) : Prop := f_is_place [.lst R, d] = some (.rt (.bl false), [])
section
variable {R : List D} {n : Nat}
theorem np_no {d : D} (h : isD "tuple" d = some (.bl false)) : NP R d := by
  unfold NP
  simp only [f_is_place, b_is_place, eqD_i, neD_i, adD_i, vr0, vr1, vr2, vr3, vr4, vr5, vr6, vr7, vr8, vr9, vr10, vr11, vr12, vr13, vr14, vr15, vr16, vr17, vr18, vr19, vr20, vr21, vr22, vr23, put0, put1, put2, put3, put4, put5, put6, put7, put8, put9, put10, put11, put12, put13, put14, put15, put16, put17, put18, put19, put20, put21, put22, put23, onL0, onL1, onL2, onL3, onL4, onL5, onL6, onL7, onL8, onL9, onL10, onL11, onL12, onL13, onL14, onL15, onL16, onL17, onL18, onL19, onL20, onL21, onL22, onL23, isL0, isL1, isL2, isL3, isL4, isL5, isL6, isL7, isL8, isL9, isL10, isL11, isL12, isL13, isL14, isL15, isL16, isL17, isL18, isL19, isL20, isL21, isL22, isL23, mv0, mv1, mv2, mv3, mv4, mv5, mv6, mv7, mv8, mv9, mv10, mv11, mv12, mv13, mv14, mv15, mv16, mv17, mv18, mv19, mv20, mv21, mv22, mv23, oC0, oC1, oC2, oC3, oC4, oC5, oC6, oC7, ls0, ls1, ls2, ls3, ls4, ls5, ls6, ls7, ls8, ls9, ls10, ls11, ls12, tp0, tp1, tp2, tp3, tp4, tp5, tp6, tp7, tp8, tp9, tp10, tp11, tp12, Py.c0, Py.b1, Py.b2, Py.b3, Py.bA, Py.a0, Py.a1, Py.tb, Py.p2i, Py.qDo, Py.q1, Py.qIf, Py.qRt, Py.q0, Py.qAp, Py.mkF, Py.sbI, Py.ixD, Py.cpI, Py.asB, Py.truD, Py.tN, Py.tA, Py.tO, Py.vA, Py.vO, Py.vN, Py.cI, Py.iB, Py.ia0, Py.ia1, Py.iaM, Py.imD, Py.ngI, Py.liD, Py.tuD, Py.intD, Py.maxD, Py.minD, Py.sq, Py.flt, Py.ch, Py.itD, Py.itA, Py.asS, Option.bind_some, Option.bind_none, Option.map_some, Option.map_none, List.map_cons, List.map_nil, List.cons_append, List.nil_append, List.length_cons, List.length_nil, List.replicate, Int.reduceLT, Int.reduceLE, Int.reduceGT, Int.reduceGE, Int.reduceEq, Int.reduceNe, Int.reduceAdd, Int.reduceSub, Int.reduceMul, Int.reduceNeg, Int.reduceMod, Int.reduceDiv, Nat.reduceAdd, Nat.reduceLT, decide_true, decide_false, if_true, if_false, reduceIte, and_self, and_true, true_and, or_true, true_or, or_false, false_or, not_true_eq_false, not_false_eq_true, Bool.not_true, Bool.not_false, Bool.false_eq_true, h]
theorem np_few {ds : List D} (h : ds.length < 2) : NP R (.tup ds) := by
  unfold NP
  have a : isD "tuple" (.tup ds) = some (.bl true) := rfl
  have c : ((ds.length : Nat) : Int) < 2 := by omega
  simp only [f_is_place, b_is_place, eqD_i, neD_i, adD_i, vr0, vr1, vr2, vr3, vr4, vr5, vr6, vr7, vr8, vr9, vr10, vr11, vr12, vr13, vr14, vr15, vr16, vr17, vr18, vr19, vr20, vr21, vr22, vr23, put0, put1, put2, put3, put4, put5, put6, put7, put8, put9, put10, put11, put12, put13, put14, put15, put16, put17, put18, put19, put20, put21, put22, put23, onL0, onL1, onL2, onL3, onL4, onL5, onL6, onL7, onL8, onL9, onL10, onL11, onL12, onL13, onL14, onL15, onL16, onL17, onL18, onL19, onL20, onL21, onL22, onL23, isL0, isL1, isL2, isL3, isL4, isL5, isL6, isL7, isL8, isL9, isL10, isL11, isL12, isL13, isL14, isL15, isL16, isL17, isL18, isL19, isL20, isL21, isL22, isL23, mv0, mv1, mv2, mv3, mv4, mv5, mv6, mv7, mv8, mv9, mv10, mv11, mv12, mv13, mv14, mv15, mv16, mv17, mv18, mv19, mv20, mv21, mv22, mv23, oC0, oC1, oC2, oC3, oC4, oC5, oC6, oC7, ls0, ls1, ls2, ls3, ls4, ls5, ls6, ls7, ls8, ls9, ls10, ls11, ls12, tp0, tp1, tp2, tp3, tp4, tp5, tp6, tp7, tp8, tp9, tp10, tp11, tp12, Py.c0, Py.b1, Py.b2, Py.b3, Py.bA, Py.a0, Py.a1, Py.tb, Py.p2i, Py.qDo, Py.q1, Py.qIf, Py.qRt, Py.q0, Py.qAp, Py.mkF, Py.sbI, Py.ixD, Py.cpI, Py.asB, Py.truD, Py.tN, Py.tA, Py.tO, Py.vA, Py.vO, Py.vN, Py.cI, Py.iB, Py.ia0, Py.ia1, Py.iaM, Py.imD, Py.ngI, Py.liD, Py.tuD, Py.intD, Py.maxD, Py.minD, Py.sq, Py.flt, Py.ch, Py.itD, Py.itA, Py.asS, Option.bind_some, Option.bind_none, Option.map_some, Option.map_none, List.map_cons, List.map_nil, List.cons_append, List.nil_append, List.length_cons, List.length_nil, List.replicate, Int.reduceLT, Int.reduceLE, Int.reduceGT, Int.reduceGE, Int.reduceEq, Int.reduceNe, Int.reduceAdd, Int.reduceSub, Int.reduceMul, Int.reduceNeg, Int.reduceMod, Int.reduceDiv, Nat.reduceAdd, Nat.reduceLT, decide_true, decide_false, if_true, if_false, reduceIte, and_self, and_true, true_and, or_true, true_or, or_false, false_or, not_true_eq_false, not_false_eq_true, Bool.not_true, Bool.not_false, Bool.false_eq_true, a, len_t, c]
variable {a x y : D} {rest : List D} {b1 b2' : Bool}
theorem np_from (h : f_is_from [x, .int 0, .int ((R.length : Int) - 1)] = some (.rt (.bl false), [])) : NP R (.tup (a :: x :: rest)) := by
  unfold NP
  have i : isD "tuple" (.tup (a :: x :: rest)) = some (.bl true) := rfl
  have c : ¬ (((a :: x :: rest).length : Nat) : Int) < 2 := by simp only [List.length_cons]; omega
  have at1 : atI (a :: x :: rest) 1 = some x := at_nat (xs := a :: x :: rest) (i := 1) (by simp)
  have lt : lenD [.tup (a :: x :: rest)] = some (.int (((a :: x :: rest).length : Nat) : Int)) := rfl
  generalize (((a :: x :: rest).length : Nat) : Int) = L at *
  simp only [f_is_place, b_is_place, eqD_i, neD_i, adD_i, vr0, vr1, vr2, vr3, vr4, vr5, vr6, vr7, vr8, vr9, vr10, vr11, vr12, vr13, vr14, vr15, vr16, vr17, vr18, vr19, vr20, vr21, vr22, vr23, put0, put1, put2, put3, put4, put5, put6, put7, put8, put9, put10, put11, put12, put13, put14, put15, put16, put17, put18, put19, put20, put21, put22, put23, onL0, onL1, onL2, onL3, onL4, onL5, onL6, onL7, onL8, onL9, onL10, onL11, onL12, onL13, onL14, onL15, onL16, onL17, onL18, onL19, onL20, onL21, onL22, onL23, isL0, isL1, isL2, isL3, isL4, isL5, isL6, isL7, isL8, isL9, isL10, isL11, isL12, isL13, isL14, isL15, isL16, isL17, isL18, isL19, isL20, isL21, isL22, isL23, mv0, mv1, mv2, mv3, mv4, mv5, mv6, mv7, mv8, mv9, mv10, mv11, mv12, mv13, mv14, mv15, mv16, mv17, mv18, mv19, mv20, mv21, mv22, mv23, oC0, oC1, oC2, oC3, oC4, oC5, oC6, oC7, ls0, ls1, ls2, ls3, ls4, ls5, ls6, ls7, ls8, ls9, ls10, ls11, ls12, tp0, tp1, tp2, tp3, tp4, tp5, tp6, tp7, tp8, tp9, tp10, tp11, tp12, Py.c0, Py.b1, Py.b2, Py.b3, Py.bA, Py.a0, Py.a1, Py.tb, Py.p2i, Py.qDo, Py.q1, Py.qIf, Py.qRt, Py.q0, Py.qAp, Py.mkF, Py.sbI, Py.ixD, Py.cpI, Py.asB, Py.truD, Py.tN, Py.tA, Py.tO, Py.vA, Py.vO, Py.vN, Py.cI, Py.iB, Py.ia0, Py.ia1, Py.iaM, Py.imD, Py.ngI, Py.liD, Py.tuD, Py.intD, Py.maxD, Py.minD, Py.sq, Py.flt, Py.ch, Py.itD, Py.itA, Py.asS, Option.bind_some, Option.bind_none, Option.map_some, Option.map_none, List.map_cons, List.map_nil, List.cons_append, List.nil_append, List.length_cons, List.length_nil, List.replicate, Int.reduceLT, Int.reduceLE, Int.reduceGT, Int.reduceGE, Int.reduceEq, Int.reduceNe, Int.reduceAdd, Int.reduceSub, Int.reduceMul, Int.reduceNeg, Int.reduceMod, Int.reduceDiv, Nat.reduceAdd, Nat.reduceLT, decide_true, decide_false, if_true, if_false, reduceIte, and_self, and_true, true_and, or_true, true_or, or_false, false_or, not_true_eq_false, not_false_eq_true, Bool.not_true, Bool.not_false, Bool.false_eq_true, Py.cD, List.append_nil, i, len_l, lt, c, at1, h]
theorem np_gen (hx : f_is_from [x, .int 0, .int ((R.length : Int) - 1)] = some (.rt (.bl b1), [])) (c1 c2 c3 : Bool) (e1 : eqD a (.str "before") = some (.bl c1)) (e2 : eqD a (.str "after") = some (.bl c2)) (e3 : eqD a (.str "way") = some (.bl c3))
    (h1 : c1 = true → rest ≠ []) (h2 : c1 = false → c2 = true → rest ≠ [] ∨ ∃ z, f_ways_of [.lst R, x] = some (.rt (.lst z), []) ∧ z = [])
    (h3 : c1 = false → c2 = false → c3 = true → rest.length ≠ 1 ∨ ∃ y, rest = [y] ∧ ∃ b2', f_is_from [y, .int 0, .int ((R.length : Int) - 1)] = some (.rt (.bl b2'), []) ∧ (b2' = true → ∃ z, f_ways_of [.lst R, x] = some (.rt (.lst z), []) ∧ inD false y (.lst z) = some (.bl false))) : NP R (.tup (a :: x :: rest)) := by
  cases b1 with
  | false => exact np_from hx
  | true =>
    unfold NP
    have i : isD "tuple" (.tup (a :: x :: rest)) = some (.bl true) := rfl
    have c : ¬ ((rest.length + 2 : Nat) : Int) < 2 := by omega
    have at0 : atI (a :: x :: rest) 0 = some a := at_nat (xs := a :: x :: rest) (i := 0) (by simp)
    have at1 : atI (a :: x :: rest) 1 = some x := at_nat (xs := a :: x :: rest) (i := 1) (by simp)
    have lt : lenD [.tup (a :: x :: rest)] = some (.int ((rest.length + 2 : Nat) : Int)) := rfl
    cases c1 with
    | true =>
      have c4 : ¬ ((rest.length + 2 : Nat) : Int) = 2 := by
        have := List.length_pos_iff.mpr (h1 rfl)
        omega
      generalize ((rest.length + 2 : Nat) : Int) = L at *
      simp only [f_is_place, b_is_place, eqD_i, neD_i, adD_i, vr0, vr1, vr2, vr3, vr4, vr5, vr6, vr7, vr8, vr9, vr10, vr11, vr12, vr13, vr14, vr15, vr16, vr17, vr18, vr19, vr20, vr21, vr22, vr23, put0, put1, put2, put3, put4, put5, put6, put7, put8, put9, put10, put11, put12, put13, put14, put15, put16, put17, put18, put19, put20, put21, put22, put23, onL0, onL1, onL2, onL3, onL4, onL5, onL6, onL7, onL8, onL9, onL10, onL11, onL12, onL13, onL14, onL15, onL16, onL17, onL18, onL19, onL20, onL21, onL22, onL23, isL0, isL1, isL2, isL3, isL4, isL5, isL6, isL7, isL8, isL9, isL10, isL11, isL12, isL13, isL14, isL15, isL16, isL17, isL18, isL19, isL20, isL21, isL22, isL23, mv0, mv1, mv2, mv3, mv4, mv5, mv6, mv7, mv8, mv9, mv10, mv11, mv12, mv13, mv14, mv15, mv16, mv17, mv18, mv19, mv20, mv21, mv22, mv23, oC0, oC1, oC2, oC3, oC4, oC5, oC6, oC7, ls0, ls1, ls2, ls3, ls4, ls5, ls6, ls7, ls8, ls9, ls10, ls11, ls12, tp0, tp1, tp2, tp3, tp4, tp5, tp6, tp7, tp8, tp9, tp10, tp11, tp12, Py.c0, Py.b1, Py.b2, Py.b3, Py.bA, Py.a0, Py.a1, Py.tb, Py.p2i, Py.qDo, Py.q1, Py.qIf, Py.qRt, Py.q0, Py.qAp, Py.mkF, Py.sbI, Py.ixD, Py.cpI, Py.asB, Py.truD, Py.tN, Py.tA, Py.tO, Py.vA, Py.vO, Py.vN, Py.cI, Py.iB, Py.ia0, Py.ia1, Py.iaM, Py.imD, Py.ngI, Py.liD, Py.tuD, Py.intD, Py.maxD, Py.minD, Py.sq, Py.flt, Py.ch, Py.itD, Py.itA, Py.asS, Option.bind_some, Option.bind_none, Option.map_some, Option.map_none, List.map_cons, List.map_nil, List.cons_append, List.nil_append, List.length_cons, List.length_nil, List.replicate, Int.reduceLT, Int.reduceLE, Int.reduceGT, Int.reduceGE, Int.reduceEq, Int.reduceNe, Int.reduceAdd, Int.reduceSub, Int.reduceMul, Int.reduceNeg, Int.reduceMod, Int.reduceDiv, Nat.reduceAdd, Nat.reduceLT, decide_true, decide_false, if_true, if_false, reduceIte, and_self, and_true, true_and, or_true, true_or, or_false, false_or, not_true_eq_false, not_false_eq_true, Bool.not_true, Bool.not_false, Bool.false_eq_true, Py.cD, List.append_nil, i, len_l, lt, c, at0, at1, hx, e1, c4]
    | false =>
      cases c2 with
      | true =>
        rcases h2 rfl rfl with hr | ⟨z, hz, rfl⟩
        · have c4 : ¬ ((rest.length + 2 : Nat) : Int) = 2 := by
            have := List.length_pos_iff.mpr hr
            omega
          generalize ((rest.length + 2 : Nat) : Int) = L at *
          simp only [f_is_place, b_is_place, eqD_i, neD_i, adD_i, vr0, vr1, vr2, vr3, vr4, vr5, vr6, vr7, vr8, vr9, vr10, vr11, vr12, vr13, vr14, vr15, vr16, vr17, vr18, vr19, vr20, vr21, vr22, vr23, put0, put1, put2, put3, put4, put5, put6, put7, put8, put9, put10, put11, put12, put13, put14, put15, put16, put17, put18, put19, put20, put21, put22, put23, onL0, onL1, onL2, onL3, onL4, onL5, onL6, onL7, onL8, onL9, onL10, onL11, onL12, onL13, onL14, onL15, onL16, onL17, onL18, onL19, onL20, onL21, onL22, onL23, isL0, isL1, isL2, isL3, isL4, isL5, isL6, isL7, isL8, isL9, isL10, isL11, isL12, isL13, isL14, isL15, isL16, isL17, isL18, isL19, isL20, isL21, isL22, isL23, mv0, mv1, mv2, mv3, mv4, mv5, mv6, mv7, mv8, mv9, mv10, mv11, mv12, mv13, mv14, mv15, mv16, mv17, mv18, mv19, mv20, mv21, mv22, mv23, oC0, oC1, oC2, oC3, oC4, oC5, oC6, oC7, ls0, ls1, ls2, ls3, ls4, ls5, ls6, ls7, ls8, ls9, ls10, ls11, ls12, tp0, tp1, tp2, tp3, tp4, tp5, tp6, tp7, tp8, tp9, tp10, tp11, tp12, Py.c0, Py.b1, Py.b2, Py.b3, Py.bA, Py.a0, Py.a1, Py.tb, Py.p2i, Py.qDo, Py.q1, Py.qIf, Py.qRt, Py.q0, Py.qAp, Py.mkF, Py.sbI, Py.ixD, Py.cpI, Py.asB, Py.truD, Py.tN, Py.tA, Py.tO, Py.vA, Py.vO, Py.vN, Py.cI, Py.iB, Py.ia0, Py.ia1, Py.iaM, Py.imD, Py.ngI, Py.liD, Py.tuD, Py.intD, Py.maxD, Py.minD, Py.sq, Py.flt, Py.ch, Py.itD, Py.itA, Py.asS, Option.bind_some, Option.bind_none, Option.map_some, Option.map_none, List.map_cons, List.map_nil, List.cons_append, List.nil_append, List.length_cons, List.length_nil, List.replicate, Int.reduceLT, Int.reduceLE, Int.reduceGT, Int.reduceGE, Int.reduceEq, Int.reduceNe, Int.reduceAdd, Int.reduceSub, Int.reduceMul, Int.reduceNeg, Int.reduceMod, Int.reduceDiv, Nat.reduceAdd, Nat.reduceLT, decide_true, decide_false, if_true, if_false, reduceIte, and_self, and_true, true_and, or_true, true_or, or_false, false_or, not_true_eq_false, not_false_eq_true, Bool.not_true, Bool.not_false, Bool.false_eq_true, Py.cD, List.append_nil, i, len_l, lt, c, at0, at1, hx, e1, e2, c4]
        · have n0 : neD (.lst []) (.lst []) = some (.bl false) := by kernel_rfl
          by_cases c4 : ((rest.length + 2 : Nat) : Int) = 2
          · generalize ((rest.length + 2 : Nat) : Int) = L at *
            simp only [f_is_place, b_is_place, eqD_i, neD_i, adD_i, vr0, vr1, vr2, vr3, vr4, vr5, vr6, vr7, vr8, vr9, vr10, vr11, vr12, vr13, vr14, vr15, vr16, vr17, vr18, vr19, vr20, vr21, vr22, vr23, put0, put1, put2, put3, put4, put5, put6, put7, put8, put9, put10, put11, put12, put13, put14, put15, put16, put17, put18, put19, put20, put21, put22, put23, onL0, onL1, onL2, onL3, onL4, onL5, onL6, onL7, onL8, onL9, onL10, onL11, onL12, onL13, onL14, onL15, onL16, onL17, onL18, onL19, onL20, onL21, onL22, onL23, isL0, isL1, isL2, isL3, isL4, isL5, isL6, isL7, isL8, isL9, isL10, isL11, isL12, isL13, isL14, isL15, isL16, isL17, isL18, isL19, isL20, isL21, isL22, isL23, mv0, mv1, mv2, mv3, mv4, mv5, mv6, mv7, mv8, mv9, mv10, mv11, mv12, mv13, mv14, mv15, mv16, mv17, mv18, mv19, mv20, mv21, mv22, mv23, oC0, oC1, oC2, oC3, oC4, oC5, oC6, oC7, ls0, ls1, ls2, ls3, ls4, ls5, ls6, ls7, ls8, ls9, ls10, ls11, ls12, tp0, tp1, tp2, tp3, tp4, tp5, tp6, tp7, tp8, tp9, tp10, tp11, tp12, Py.c0, Py.b1, Py.b2, Py.b3, Py.bA, Py.a0, Py.a1, Py.tb, Py.p2i, Py.qDo, Py.q1, Py.qIf, Py.qRt, Py.q0, Py.qAp, Py.mkF, Py.sbI, Py.ixD, Py.cpI, Py.asB, Py.truD, Py.tN, Py.tA, Py.tO, Py.vA, Py.vO, Py.vN, Py.cI, Py.iB, Py.ia0, Py.ia1, Py.iaM, Py.imD, Py.ngI, Py.liD, Py.tuD, Py.intD, Py.maxD, Py.minD, Py.sq, Py.flt, Py.ch, Py.itD, Py.itA, Py.asS, Option.bind_some, Option.bind_none, Option.map_some, Option.map_none, List.map_cons, List.map_nil, List.cons_append, List.nil_append, List.length_cons, List.length_nil, List.replicate, Int.reduceLT, Int.reduceLE, Int.reduceGT, Int.reduceGE, Int.reduceEq, Int.reduceNe, Int.reduceAdd, Int.reduceSub, Int.reduceMul, Int.reduceNeg, Int.reduceMod, Int.reduceDiv, Nat.reduceAdd, Nat.reduceLT, decide_true, decide_false, if_true, if_false, reduceIte, and_self, and_true, true_and, or_true, true_or, or_false, false_or, not_true_eq_false, not_false_eq_true, Bool.not_true, Bool.not_false, Bool.false_eq_true, Py.cD, List.append_nil, i, len_l, lt, c, at0, at1, hx, e1, e2, c4, hz, n0]
          · generalize ((rest.length + 2 : Nat) : Int) = L at *
            simp only [f_is_place, b_is_place, eqD_i, neD_i, adD_i, vr0, vr1, vr2, vr3, vr4, vr5, vr6, vr7, vr8, vr9, vr10, vr11, vr12, vr13, vr14, vr15, vr16, vr17, vr18, vr19, vr20, vr21, vr22, vr23, put0, put1, put2, put3, put4, put5, put6, put7, put8, put9, put10, put11, put12, put13, put14, put15, put16, put17, put18, put19, put20, put21, put22, put23, onL0, onL1, onL2, onL3, onL4, onL5, onL6, onL7, onL8, onL9, onL10, onL11, onL12, onL13, onL14, onL15, onL16, onL17, onL18, onL19, onL20, onL21, onL22, onL23, isL0, isL1, isL2, isL3, isL4, isL5, isL6, isL7, isL8, isL9, isL10, isL11, isL12, isL13, isL14, isL15, isL16, isL17, isL18, isL19, isL20, isL21, isL22, isL23, mv0, mv1, mv2, mv3, mv4, mv5, mv6, mv7, mv8, mv9, mv10, mv11, mv12, mv13, mv14, mv15, mv16, mv17, mv18, mv19, mv20, mv21, mv22, mv23, oC0, oC1, oC2, oC3, oC4, oC5, oC6, oC7, ls0, ls1, ls2, ls3, ls4, ls5, ls6, ls7, ls8, ls9, ls10, ls11, ls12, tp0, tp1, tp2, tp3, tp4, tp5, tp6, tp7, tp8, tp9, tp10, tp11, tp12, Py.c0, Py.b1, Py.b2, Py.b3, Py.bA, Py.a0, Py.a1, Py.tb, Py.p2i, Py.qDo, Py.q1, Py.qIf, Py.qRt, Py.q0, Py.qAp, Py.mkF, Py.sbI, Py.ixD, Py.cpI, Py.asB, Py.truD, Py.tN, Py.tA, Py.tO, Py.vA, Py.vO, Py.vN, Py.cI, Py.iB, Py.ia0, Py.ia1, Py.iaM, Py.imD, Py.ngI, Py.liD, Py.tuD, Py.intD, Py.maxD, Py.minD, Py.sq, Py.flt, Py.ch, Py.itD, Py.itA, Py.asS, Option.bind_some, Option.bind_none, Option.map_some, Option.map_none, List.map_cons, List.map_nil, List.cons_append, List.nil_append, List.length_cons, List.length_nil, List.replicate, Int.reduceLT, Int.reduceLE, Int.reduceGT, Int.reduceGE, Int.reduceEq, Int.reduceNe, Int.reduceAdd, Int.reduceSub, Int.reduceMul, Int.reduceNeg, Int.reduceMod, Int.reduceDiv, Nat.reduceAdd, Nat.reduceLT, decide_true, decide_false, if_true, if_false, reduceIte, and_self, and_true, true_and, or_true, true_or, or_false, false_or, not_true_eq_false, not_false_eq_true, Bool.not_true, Bool.not_false, Bool.false_eq_true, Py.cD, List.append_nil, i, len_l, lt, c, at0, at1, hx, e1, e2, c4]
      | false =>
        cases c3 with
        | false =>
          generalize ((rest.length + 2 : Nat) : Int) = L at *
          simp only [f_is_place, b_is_place, eqD_i, neD_i, adD_i, vr0, vr1, vr2, vr3, vr4, vr5, vr6, vr7, vr8, vr9, vr10, vr11, vr12, vr13, vr14, vr15, vr16, vr17, vr18, vr19, vr20, vr21, vr22, vr23, put0, put1, put2, put3, put4, put5, put6, put7, put8, put9, put10, put11, put12, put13, put14, put15, put16, put17, put18, put19, put20, put21, put22, put23, onL0, onL1, onL2, onL3, onL4, onL5, onL6, onL7, onL8, onL9, onL10, onL11, onL12, onL13, onL14, onL15, onL16, onL17, onL18, onL19, onL20, onL21, onL22, onL23, isL0, isL1, isL2, isL3, isL4, isL5, isL6, isL7, isL8, isL9, isL10, isL11, isL12, isL13, isL14, isL15, isL16, isL17, isL18, isL19, isL20, isL21, isL22, isL23, mv0, mv1, mv2, mv3, mv4, mv5, mv6, mv7, mv8, mv9, mv10, mv11, mv12, mv13, mv14, mv15, mv16, mv17, mv18, mv19, mv20, mv21, mv22, mv23, oC0, oC1, oC2, oC3, oC4, oC5, oC6, oC7, ls0, ls1, ls2, ls3, ls4, ls5, ls6, ls7, ls8, ls9, ls10, ls11, ls12, tp0, tp1, tp2, tp3, tp4, tp5, tp6, tp7, tp8, tp9, tp10, tp11, tp12, Py.c0, Py.b1, Py.b2, Py.b3, Py.bA, Py.a0, Py.a1, Py.tb, Py.p2i, Py.qDo, Py.q1, Py.qIf, Py.qRt, Py.q0, Py.qAp, Py.mkF, Py.sbI, Py.ixD, Py.cpI, Py.asB, Py.truD, Py.tN, Py.tA, Py.tO, Py.vA, Py.vO, Py.vN, Py.cI, Py.iB, Py.ia0, Py.ia1, Py.iaM, Py.imD, Py.ngI, Py.liD, Py.tuD, Py.intD, Py.maxD, Py.minD, Py.sq, Py.flt, Py.ch, Py.itD, Py.itA, Py.asS, Option.bind_some, Option.bind_none, Option.map_some, Option.map_none, List.map_cons, List.map_nil, List.cons_append, List.nil_append, List.length_cons, List.length_nil, List.replicate, Int.reduceLT, Int.reduceLE, Int.reduceGT, Int.reduceGE, Int.reduceEq, Int.reduceNe, Int.reduceAdd, Int.reduceSub, Int.reduceMul, Int.reduceNeg, Int.reduceMod, Int.reduceDiv, Nat.reduceAdd, Nat.reduceLT, decide_true, decide_false, if_true, if_false, reduceIte, and_self, and_true, true_and, or_true, true_or, or_false, false_or, not_true_eq_false, not_false_eq_true, Bool.not_true, Bool.not_false, Bool.false_eq_true, Py.cD, List.append_nil, i, len_l, lt, c, at0, at1, hx, e1, e2, e3]
        | true =>
          rcases h3 rfl rfl rfl with hr | ⟨y, rfl, b2', hy, hw⟩
          · have c4 : ¬ ((rest.length + 2 : Nat) : Int) = 3 := by omega
            generalize ((rest.length + 2 : Nat) : Int) = L at *
            simp only [f_is_place, b_is_place, eqD_i, neD_i, adD_i, vr0, vr1, vr2, vr3, vr4, vr5, vr6, vr7, vr8, vr9, vr10, vr11, vr12, vr13, vr14, vr15, vr16, vr17, vr18, vr19, vr20, vr21, vr22, vr23, put0, put1, put2, put3, put4, put5, put6, put7, put8, put9, put10, put11, put12, put13, put14, put15, put16, put17, put18, put19, put20, put21, put22, put23, onL0, onL1, onL2, onL3, onL4, onL5, onL6, onL7, onL8, onL9, onL10, onL11, onL12, onL13, onL14, onL15, onL16, onL17, onL18, onL19, onL20, onL21, onL22, onL23, isL0, isL1, isL2, isL3, isL4, isL5, isL6, isL7, isL8, isL9, isL10, isL11, isL12, isL13, isL14, isL15, isL16, isL17, isL18, isL19, isL20, isL21, isL22, isL23, mv0, mv1, mv2, mv3, mv4, mv5, mv6, mv7, mv8, mv9, mv10, mv11, mv12, mv13, mv14, mv15, mv16, mv17, mv18, mv19, mv20, mv21, mv22, mv23, oC0, oC1, oC2, oC3, oC4, oC5, oC6, oC7, ls0, ls1, ls2, ls3, ls4, ls5, ls6, ls7, ls8, ls9, ls10, ls11, ls12, tp0, tp1, tp2, tp3, tp4, tp5, tp6, tp7, tp8, tp9, tp10, tp11, tp12, Py.c0, Py.b1, Py.b2, Py.b3, Py.bA, Py.a0, Py.a1, Py.tb, Py.p2i, Py.qDo, Py.q1, Py.qIf, Py.qRt, Py.q0, Py.qAp, Py.mkF, Py.sbI, Py.ixD, Py.cpI, Py.asB, Py.truD, Py.tN, Py.tA, Py.tO, Py.vA, Py.vO, Py.vN, Py.cI, Py.iB, Py.ia0, Py.ia1, Py.iaM, Py.imD, Py.ngI, Py.liD, Py.tuD, Py.intD, Py.maxD, Py.minD, Py.sq, Py.flt, Py.ch, Py.itD, Py.itA, Py.asS, Option.bind_some, Option.bind_none, Option.map_some, Option.map_none, List.map_cons, List.map_nil, List.cons_append, List.nil_append, List.length_cons, List.length_nil, List.replicate, Int.reduceLT, Int.reduceLE, Int.reduceGT, Int.reduceGE, Int.reduceEq, Int.reduceNe, Int.reduceAdd, Int.reduceSub, Int.reduceMul, Int.reduceNeg, Int.reduceMod, Int.reduceDiv, Nat.reduceAdd, Nat.reduceLT, decide_true, decide_false, if_true, if_false, reduceIte, and_self, and_true, true_and, or_true, true_or, or_false, false_or, not_true_eq_false, not_false_eq_true, Bool.not_true, Bool.not_false, Bool.false_eq_true, Py.cD, List.append_nil, i, len_l, lt, c, at0, at1, hx, e1, e2, e3, c4]
          · have at2 : atI (a :: x :: [y]) 2 = some y := at_nat (xs := a :: x :: [y]) (i := 2) (by simp)
            have lt' : lenD [.tup [a, x, y]] = some (.int 3) := rfl
            cases b2' with
            | false => simp only [f_is_place, b_is_place, eqD_i, neD_i, adD_i, vr0, vr1, vr2, vr3, vr4, vr5, vr6, vr7, vr8, vr9, vr10, vr11, vr12, vr13, vr14, vr15, vr16, vr17, vr18, vr19, vr20, vr21, vr22, vr23, put0, put1, put2, put3, put4, put5, put6, put7, put8, put9, put10, put11, put12, put13, put14, put15, put16, put17, put18, put19, put20, put21, put22, put23, onL0, onL1, onL2, onL3, onL4, onL5, onL6, onL7, onL8, onL9, onL10, onL11, onL12, onL13, onL14, onL15, onL16, onL17, onL18, onL19, onL20, onL21, onL22, onL23, isL0, isL1, isL2, isL3, isL4, isL5, isL6, isL7, isL8, isL9, isL10, isL11, isL12, isL13, isL14, isL15, isL16, isL17, isL18, isL19, isL20, isL21, isL22, isL23, mv0, mv1, mv2, mv3, mv4, mv5, mv6, mv7, mv8, mv9, mv10, mv11, mv12, mv13, mv14, mv15, mv16, mv17, mv18, mv19, mv20, mv21, mv22, mv23, oC0, oC1, oC2, oC3, oC4, oC5, oC6, oC7, ls0, ls1, ls2, ls3, ls4, ls5, ls6, ls7, ls8, ls9, ls10, ls11, ls12, tp0, tp1, tp2, tp3, tp4, tp5, tp6, tp7, tp8, tp9, tp10, tp11, tp12, Py.c0, Py.b1, Py.b2, Py.b3, Py.bA, Py.a0, Py.a1, Py.tb, Py.p2i, Py.qDo, Py.q1, Py.qIf, Py.qRt, Py.q0, Py.qAp, Py.mkF, Py.sbI, Py.ixD, Py.cpI, Py.asB, Py.truD, Py.tN, Py.tA, Py.tO, Py.vA, Py.vO, Py.vN, Py.cI, Py.iB, Py.ia0, Py.ia1, Py.iaM, Py.imD, Py.ngI, Py.liD, Py.tuD, Py.intD, Py.maxD, Py.minD, Py.sq, Py.flt, Py.ch, Py.itD, Py.itA, Py.asS, Option.bind_some, Option.bind_none, Option.map_some, Option.map_none, List.map_cons, List.map_nil, List.cons_append, List.nil_append, List.length_cons, List.length_nil, List.replicate, Int.reduceLT, Int.reduceLE, Int.reduceGT, Int.reduceGE, Int.reduceEq, Int.reduceNe, Int.reduceAdd, Int.reduceSub, Int.reduceMul, Int.reduceNeg, Int.reduceMod, Int.reduceDiv, Nat.reduceAdd, Nat.reduceLT, decide_true, decide_false, if_true, if_false, reduceIte, and_self, and_true, true_and, or_true, true_or, or_false, false_or, not_true_eq_false, not_false_eq_true, Bool.not_true, Bool.not_false, Bool.false_eq_true, Py.cD, List.append_nil, i, len_l, lt', at0, at1, at2, hx, hy, e1, e2, e3]
            | true =>
              obtain ⟨z, hz, hi⟩ := hw rfl
              simp only [f_is_place, b_is_place, eqD_i, neD_i, adD_i, vr0, vr1, vr2, vr3, vr4, vr5, vr6, vr7, vr8, vr9, vr10, vr11, vr12, vr13, vr14, vr15, vr16, vr17, vr18, vr19, vr20, vr21, vr22, vr23, put0, put1, put2, put3, put4, put5, put6, put7, put8, put9, put10, put11, put12, put13, put14, put15, put16, put17, put18, put19, put20, put21, put22, put23, onL0, onL1, onL2, onL3, onL4, onL5, onL6, onL7, onL8, onL9, onL10, onL11, onL12, onL13, onL14, onL15, onL16, onL17, onL18, onL19, onL20, onL21, onL22, onL23, isL0, isL1, isL2, isL3, isL4, isL5, isL6, isL7, isL8, isL9, isL10, isL11, isL12, isL13, isL14, isL15, isL16, isL17, isL18, isL19, isL20, isL21, isL22, isL23, mv0, mv1, mv2, mv3, mv4, mv5, mv6, mv7, mv8, mv9, mv10, mv11, mv12, mv13, mv14, mv15, mv16, mv17, mv18, mv19, mv20, mv21, mv22, mv23, oC0, oC1, oC2, oC3, oC4, oC5, oC6, oC7, ls0, ls1, ls2, ls3, ls4, ls5, ls6, ls7, ls8, ls9, ls10, ls11, ls12, tp0, tp1, tp2, tp3, tp4, tp5, tp6, tp7, tp8, tp9, tp10, tp11, tp12, Py.c0, Py.b1, Py.b2, Py.b3, Py.bA, Py.a0, Py.a1, Py.tb, Py.p2i, Py.qDo, Py.q1, Py.qIf, Py.qRt, Py.q0, Py.qAp, Py.mkF, Py.sbI, Py.ixD, Py.cpI, Py.asB, Py.truD, Py.tN, Py.tA, Py.tO, Py.vA, Py.vO, Py.vN, Py.cI, Py.iB, Py.ia0, Py.ia1, Py.iaM, Py.imD, Py.ngI, Py.liD, Py.tuD, Py.intD, Py.maxD, Py.minD, Py.sq, Py.flt, Py.ch, Py.itD, Py.itA, Py.asS, Option.bind_some, Option.bind_none, Option.map_some, Option.map_none, List.map_cons, List.map_nil, List.cons_append, List.nil_append, List.length_cons, List.length_nil, List.replicate, Int.reduceLT, Int.reduceLE, Int.reduceGT, Int.reduceGE, Int.reduceEq, Int.reduceNe, Int.reduceAdd, Int.reduceSub, Int.reduceMul, Int.reduceNeg, Int.reduceMod, Int.reduceDiv, Nat.reduceAdd, Nat.reduceLT, decide_true, decide_false, if_true, if_false, reduceIte, and_self, and_true, true_and, or_true, true_or, or_false, false_or, not_true_eq_false, not_false_eq_true, Bool.not_true, Bool.not_false, Bool.false_eq_true, Py.cD, List.append_nil, i, len_l, lt', at0, at1, at2, hx, hy, e1, e2, e3, hz, hi]
end
/-! ### refused -/
abbrev cnt : D := .tup [.str "count", .int 0]
theorem cnt_ok : f_is_what [cnt] = some (.rt (.bl true), []) := by kernel_rfl
theorem wish (R : List D) {d : D} {b : Bool} (h : f_is_place [.lst R, d] = some (.rt (.bl b), [])) : f_is_wish [.lst R, .tup [d, cnt]] = some (.rt (.bl b), []) := by
  have i : isD "tuple" (.tup [d, cnt]) = some (.bl true) := rfl
  have lt : lenD [.tup [d, cnt]] = some (.int 2) := rfl
  have n2 : neD (.int 2) (.int 2) = some (.bl false) := by kernel_rfl
  have at0 : atI [d, cnt] 0 = some d := rfl
  have at1 : atI [d, cnt] 1 = some cnt := rfl
  have w := cnt_ok
  generalize cnt = q at *
  cases b <;> simp only [f_is_wish, b_is_wish, eqD_i, neD_i, adD_i, vr0, vr1, vr2, vr3, vr4, vr5, vr6, vr7, vr8, vr9, vr10, vr11, vr12, vr13, vr14, vr15, vr16, vr17, vr18, vr19, vr20, vr21, vr22, vr23, put0, put1, put2, put3, put4, put5, put6, put7, put8, put9, put10, put11, put12, put13, put14, put15, put16, put17, put18, put19, put20, put21, put22, put23, onL0, onL1, onL2, onL3, onL4, onL5, onL6, onL7, onL8, onL9, onL10, onL11, onL12, onL13, onL14, onL15, onL16, onL17, onL18, onL19, onL20, onL21, onL22, onL23, isL0, isL1, isL2, isL3, isL4, isL5, isL6, isL7, isL8, isL9, isL10, isL11, isL12, isL13, isL14, isL15, isL16, isL17, isL18, isL19, isL20, isL21, isL22, isL23, mv0, mv1, mv2, mv3, mv4, mv5, mv6, mv7, mv8, mv9, mv10, mv11, mv12, mv13, mv14, mv15, mv16, mv17, mv18, mv19, mv20, mv21, mv22, mv23, oC0, oC1, oC2, oC3, oC4, oC5, oC6, oC7, ls0, ls1, ls2, ls3, ls4, ls5, ls6, ls7, ls8, ls9, ls10, ls11, ls12, tp0, tp1, tp2, tp3, tp4, tp5, tp6, tp7, tp8, tp9, tp10, tp11, tp12, Py.c0, Py.b1, Py.b2, Py.b3, Py.bA, Py.a0, Py.a1, Py.tb, Py.p2i, Py.qDo, Py.q1, Py.qIf, Py.qRt, Py.q0, Py.qAp, Py.mkF, Py.sbI, Py.ixD, Py.cpI, Py.asB, Py.truD, Py.tN, Py.tA, Py.tO, Py.vA, Py.vO, Py.vN, Py.cI, Py.iB, Py.ia0, Py.ia1, Py.iaM, Py.imD, Py.ngI, Py.liD, Py.tuD, Py.intD, Py.maxD, Py.minD, Py.sq, Py.flt, Py.ch, Py.itD, Py.itA, Py.asS, Option.bind_some, Option.bind_none, Option.map_some, Option.map_none, List.map_cons, List.map_nil, List.cons_append, List.nil_append, List.length_cons, List.length_nil, List.replicate, Int.reduceLT, Int.reduceLE, Int.reduceGT, Int.reduceGE, Int.reduceEq, Int.reduceNe, Int.reduceAdd, Int.reduceSub, Int.reduceMul, Int.reduceNeg, Int.reduceMod, Int.reduceDiv, Nat.reduceAdd, Nat.reduceLT, decide_true, decide_false, if_true, if_false, reduceIte, and_self, and_true, true_and, or_true, true_or, or_false, false_or, not_true_eq_false, not_false_eq_true, Bool.not_true, Bool.not_false, Bool.false_eq_true, Py.cD, List.append_nil, i, lt, n2, at0, at1, h, w]
theorem wishes (R : List D) {d : D} {b : Bool} (h : f_is_place [.lst R, d] = some (.rt (.bl b), [])) : f_check_wishes [.lst R, .lst [.tup [d, cnt]]] = some (if b then .rt .non else .ex 0 (.int 0), []) := by
  have w := wish R h
  generalize D.tup [d, cnt] = q at *
  have i : isD "list" (.lst [q]) = some (.bl true) := rfl
  have sl : slD (.lst [q]) none (some 12) = some (.lst [q]) := rfl
  have lt : lenD [.lst [q]] = some (.int 1) := rfl
  have gt : (gT (g1 (Py.put 2) (g1 (Py.put 3) g0))) (.tup [.int ((0 : Nat) : Int), q]) [some (.lst R), some (.lst [q]), none, none] = some [some (.lst R), some (.lst [q]), some (.int 0), some q] := rfl
  cases b with
  | false =>
    have l : l0_check_wishes [some (.lst R), some (.lst [q]), some (.int 0), some q] = some (.ex 0 (.int 0), [some (.lst R), some (.lst [q]), some (.int 0), some q]) := by
      simp only [l0_check_wishes, eqD_i, neD_i, adD_i, vr0, vr1, vr2, vr3, vr4, vr5, vr6, vr7, vr8, vr9, vr10, vr11, vr12, vr13, vr14, vr15, vr16, vr17, vr18, vr19, vr20, vr21, vr22, vr23, put0, put1, put2, put3, put4, put5, put6, put7, put8, put9, put10, put11, put12, put13, put14, put15, put16, put17, put18, put19, put20, put21, put22, put23, onL0, onL1, onL2, onL3, onL4, onL5, onL6, onL7, onL8, onL9, onL10, onL11, onL12, onL13, onL14, onL15, onL16, onL17, onL18, onL19, onL20, onL21, onL22, onL23, isL0, isL1, isL2, isL3, isL4, isL5, isL6, isL7, isL8, isL9, isL10, isL11, isL12, isL13, isL14, isL15, isL16, isL17, isL18, isL19, isL20, isL21, isL22, isL23, mv0, mv1, mv2, mv3, mv4, mv5, mv6, mv7, mv8, mv9, mv10, mv11, mv12, mv13, mv14, mv15, mv16, mv17, mv18, mv19, mv20, mv21, mv22, mv23, oC0, oC1, oC2, oC3, oC4, oC5, oC6, oC7, ls0, ls1, ls2, ls3, ls4, ls5, ls6, ls7, ls8, ls9, ls10, ls11, ls12, tp0, tp1, tp2, tp3, tp4, tp5, tp6, tp7, tp8, tp9, tp10, tp11, tp12, Py.c0, Py.b1, Py.b2, Py.b3, Py.bA, Py.a0, Py.a1, Py.tb, Py.p2i, Py.qDo, Py.q1, Py.qIf, Py.qRt, Py.q0, Py.qAp, Py.mkF, Py.sbI, Py.ixD, Py.cpI, Py.asB, Py.truD, Py.tN, Py.tA, Py.tO, Py.vA, Py.vO, Py.vN, Py.cI, Py.iB, Py.ia0, Py.ia1, Py.iaM, Py.imD, Py.ngI, Py.liD, Py.tuD, Py.intD, Py.maxD, Py.minD, Py.sq, Py.flt, Py.ch, Py.itD, Py.itA, Py.asS, Option.bind_some, Option.bind_none, Option.map_some, Option.map_none, List.map_cons, List.map_nil, List.cons_append, List.nil_append, List.length_cons, List.length_nil, List.replicate, Int.reduceLT, Int.reduceLE, Int.reduceGT, Int.reduceGE, Int.reduceEq, Int.reduceNe, Int.reduceAdd, Int.reduceSub, Int.reduceMul, Int.reduceNeg, Int.reduceMod, Int.reduceDiv, Nat.reduceAdd, Nat.reduceLT, decide_true, decide_false, if_true, if_false, reduceIte, and_self, and_true, true_and, or_true, true_or, or_false, false_or, not_true_eq_false, not_false_eq_true, Bool.not_true, Bool.not_false, Bool.false_eq_true, Py.cD, List.append_nil, w, Py.qRaise]
    simp only [f_check_wishes, b_check_wishes, eqD_i, neD_i, adD_i, vr0, vr1, vr2, vr3, vr4, vr5, vr6, vr7, vr8, vr9, vr10, vr11, vr12, vr13, vr14, vr15, vr16, vr17, vr18, vr19, vr20, vr21, vr22, vr23, put0, put1, put2, put3, put4, put5, put6, put7, put8, put9, put10, put11, put12, put13, put14, put15, put16, put17, put18, put19, put20, put21, put22, put23, onL0, onL1, onL2, onL3, onL4, onL5, onL6, onL7, onL8, onL9, onL10, onL11, onL12, onL13, onL14, onL15, onL16, onL17, onL18, onL19, onL20, onL21, onL22, onL23, isL0, isL1, isL2, isL3, isL4, isL5, isL6, isL7, isL8, isL9, isL10, isL11, isL12, isL13, isL14, isL15, isL16, isL17, isL18, isL19, isL20, isL21, isL22, isL23, mv0, mv1, mv2, mv3, mv4, mv5, mv6, mv7, mv8, mv9, mv10, mv11, mv12, mv13, mv14, mv15, mv16, mv17, mv18, mv19, mv20, mv21, mv22, mv23, oC0, oC1, oC2, oC3, oC4, oC5, oC6, oC7, ls0, ls1, ls2, ls3, ls4, ls5, ls6, ls7, ls8, ls9, ls10, ls11, ls12, tp0, tp1, tp2, tp3, tp4, tp5, tp6, tp7, tp8, tp9, tp10, tp11, tp12, Py.c0, Py.b1, Py.b2, Py.b3, Py.bA, Py.a0, Py.a1, Py.tb, Py.p2i, Py.qDo, Py.q1, Py.qIf, Py.qRt, Py.q0, Py.qAp, Py.mkF, Py.sbI, Py.ixD, Py.cpI, Py.asB, Py.truD, Py.tN, Py.tA, Py.tO, Py.vA, Py.vO, Py.vN, Py.cI, Py.iB, Py.ia0, Py.ia1, Py.iaM, Py.imD, Py.ngI, Py.liD, Py.tuD, Py.intD, Py.maxD, Py.minD, Py.sq, Py.flt, Py.ch, Py.itD, Py.itA, Py.asS, Option.bind_some, Option.bind_none, Option.map_some, Option.map_none, List.map_cons, List.map_nil, List.cons_append, List.nil_append, List.length_cons, List.length_nil, List.replicate, Int.reduceLT, Int.reduceLE, Int.reduceGT, Int.reduceGE, Int.reduceEq, Int.reduceNe, Int.reduceAdd, Int.reduceSub, Int.reduceMul, Int.reduceNeg, Int.reduceMod, Int.reduceDiv, Nat.reduceAdd, Nat.reduceLT, decide_true, decide_false, if_true, if_false, reduceIte, and_self, and_true, true_and, or_true, true_or, or_false, false_or, not_true_eq_false, not_false_eq_true, Bool.not_true, Bool.not_false, Bool.false_eq_true, Py.cD, List.append_nil, k_MOST_WISHES, i, Py.oS, Py.oN, Py.asI, sl, Py.enD, Py.enL, Py.qFor, Py.forL, gt, l]
  | true =>
    have l : l0_check_wishes [some (.lst R), some (.lst [q]), some (.int 0), some q] = some (.nx, [some (.lst R), some (.lst [q]), some (.int 0), some q]) := by
      simp only [l0_check_wishes, eqD_i, neD_i, adD_i, vr0, vr1, vr2, vr3, vr4, vr5, vr6, vr7, vr8, vr9, vr10, vr11, vr12, vr13, vr14, vr15, vr16, vr17, vr18, vr19, vr20, vr21, vr22, vr23, put0, put1, put2, put3, put4, put5, put6, put7, put8, put9, put10, put11, put12, put13, put14, put15, put16, put17, put18, put19, put20, put21, put22, put23, onL0, onL1, onL2, onL3, onL4, onL5, onL6, onL7, onL8, onL9, onL10, onL11, onL12, onL13, onL14, onL15, onL16, onL17, onL18, onL19, onL20, onL21, onL22, onL23, isL0, isL1, isL2, isL3, isL4, isL5, isL6, isL7, isL8, isL9, isL10, isL11, isL12, isL13, isL14, isL15, isL16, isL17, isL18, isL19, isL20, isL21, isL22, isL23, mv0, mv1, mv2, mv3, mv4, mv5, mv6, mv7, mv8, mv9, mv10, mv11, mv12, mv13, mv14, mv15, mv16, mv17, mv18, mv19, mv20, mv21, mv22, mv23, oC0, oC1, oC2, oC3, oC4, oC5, oC6, oC7, ls0, ls1, ls2, ls3, ls4, ls5, ls6, ls7, ls8, ls9, ls10, ls11, ls12, tp0, tp1, tp2, tp3, tp4, tp5, tp6, tp7, tp8, tp9, tp10, tp11, tp12, Py.c0, Py.b1, Py.b2, Py.b3, Py.bA, Py.a0, Py.a1, Py.tb, Py.p2i, Py.qDo, Py.q1, Py.qIf, Py.qRt, Py.q0, Py.qAp, Py.mkF, Py.sbI, Py.ixD, Py.cpI, Py.asB, Py.truD, Py.tN, Py.tA, Py.tO, Py.vA, Py.vO, Py.vN, Py.cI, Py.iB, Py.ia0, Py.ia1, Py.iaM, Py.imD, Py.ngI, Py.liD, Py.tuD, Py.intD, Py.maxD, Py.minD, Py.sq, Py.flt, Py.ch, Py.itD, Py.itA, Py.asS, Option.bind_some, Option.bind_none, Option.map_some, Option.map_none, List.map_cons, List.map_nil, List.cons_append, List.nil_append, List.length_cons, List.length_nil, List.replicate, Int.reduceLT, Int.reduceLE, Int.reduceGT, Int.reduceGE, Int.reduceEq, Int.reduceNe, Int.reduceAdd, Int.reduceSub, Int.reduceMul, Int.reduceNeg, Int.reduceMod, Int.reduceDiv, Nat.reduceAdd, Nat.reduceLT, decide_true, decide_false, if_true, if_false, reduceIte, and_self, and_true, true_and, or_true, true_or, or_false, false_or, not_true_eq_false, not_false_eq_true, Bool.not_true, Bool.not_false, Bool.false_eq_true, Py.cD, List.append_nil, w, Py.qRaise]
    simp only [f_check_wishes, b_check_wishes, eqD_i, neD_i, adD_i, vr0, vr1, vr2, vr3, vr4, vr5, vr6, vr7, vr8, vr9, vr10, vr11, vr12, vr13, vr14, vr15, vr16, vr17, vr18, vr19, vr20, vr21, vr22, vr23, put0, put1, put2, put3, put4, put5, put6, put7, put8, put9, put10, put11, put12, put13, put14, put15, put16, put17, put18, put19, put20, put21, put22, put23, onL0, onL1, onL2, onL3, onL4, onL5, onL6, onL7, onL8, onL9, onL10, onL11, onL12, onL13, onL14, onL15, onL16, onL17, onL18, onL19, onL20, onL21, onL22, onL23, isL0, isL1, isL2, isL3, isL4, isL5, isL6, isL7, isL8, isL9, isL10, isL11, isL12, isL13, isL14, isL15, isL16, isL17, isL18, isL19, isL20, isL21, isL22, isL23, mv0, mv1, mv2, mv3, mv4, mv5, mv6, mv7, mv8, mv9, mv10, mv11, mv12, mv13, mv14, mv15, mv16, mv17, mv18, mv19, mv20, mv21, mv22, mv23, oC0, oC1, oC2, oC3, oC4, oC5, oC6, oC7, ls0, ls1, ls2, ls3, ls4, ls5, ls6, ls7, ls8, ls9, ls10, ls11, ls12, tp0, tp1, tp2, tp3, tp4, tp5, tp6, tp7, tp8, tp9, tp10, tp11, tp12, Py.c0, Py.b1, Py.b2, Py.b3, Py.bA, Py.a0, Py.a1, Py.tb, Py.p2i, Py.qDo, Py.q1, Py.qIf, Py.qRt, Py.q0, Py.qAp, Py.mkF, Py.sbI, Py.ixD, Py.cpI, Py.asB, Py.truD, Py.tN, Py.tA, Py.tO, Py.vA, Py.vO, Py.vN, Py.cI, Py.iB, Py.ia0, Py.ia1, Py.iaM, Py.imD, Py.ngI, Py.liD, Py.tuD, Py.intD, Py.maxD, Py.minD, Py.sq, Py.flt, Py.ch, Py.itD, Py.itA, Py.asS, Option.bind_some, Option.bind_none, Option.map_some, Option.map_none, List.map_cons, List.map_nil, List.cons_append, List.nil_append, List.length_cons, List.length_nil, List.replicate, Int.reduceLT, Int.reduceLE, Int.reduceGT, Int.reduceGE, Int.reduceEq, Int.reduceNe, Int.reduceAdd, Int.reduceSub, Int.reduceMul, Int.reduceNeg, Int.reduceMod, Int.reduceDiv, Nat.reduceAdd, Nat.reduceLT, decide_true, decide_false, if_true, if_false, reduceIte, and_self, and_true, true_and, or_true, true_or, or_false, false_or, not_true_eq_false, not_false_eq_true, Bool.not_true, Bool.not_false, Bool.false_eq_true, Py.cD, List.append_nil, k_MOST_WISHES, i, Py.oS, Py.oN, Py.asI, sl, Py.enD, Py.enL, Py.qFor, Py.forL, gt, l, lt]
theorem led_no {R : List D} {d : D} (h : NP R d) (N P : D) : f_places_led [.lst R, N, P, d] = some (.ex 0 (.int 0), []) := by
  have w := wishes R h
  have w' : f_check_wishes [.lst R, .lst [.tup [d, .tup [.str "count", .int 0]]]] = some (.ex 0 (.int 0), []) := w
  simp only [f_places_led, b_places_led, eqD_i, neD_i, adD_i, vr0, vr1, vr2, vr3, vr4, vr5, vr6, vr7, vr8, vr9, vr10, vr11, vr12, vr13, vr14, vr15, vr16, vr17, vr18, vr19, vr20, vr21, vr22, vr23, put0, put1, put2, put3, put4, put5, put6, put7, put8, put9, put10, put11, put12, put13, put14, put15, put16, put17, put18, put19, put20, put21, put22, put23, onL0, onL1, onL2, onL3, onL4, onL5, onL6, onL7, onL8, onL9, onL10, onL11, onL12, onL13, onL14, onL15, onL16, onL17, onL18, onL19, onL20, onL21, onL22, onL23, isL0, isL1, isL2, isL3, isL4, isL5, isL6, isL7, isL8, isL9, isL10, isL11, isL12, isL13, isL14, isL15, isL16, isL17, isL18, isL19, isL20, isL21, isL22, isL23, mv0, mv1, mv2, mv3, mv4, mv5, mv6, mv7, mv8, mv9, mv10, mv11, mv12, mv13, mv14, mv15, mv16, mv17, mv18, mv19, mv20, mv21, mv22, mv23, oC0, oC1, oC2, oC3, oC4, oC5, oC6, oC7, ls0, ls1, ls2, ls3, ls4, ls5, ls6, ls7, ls8, ls9, ls10, ls11, ls12, tp0, tp1, tp2, tp3, tp4, tp5, tp6, tp7, tp8, tp9, tp10, tp11, tp12, Py.c0, Py.b1, Py.b2, Py.b3, Py.bA, Py.a0, Py.a1, Py.tb, Py.p2i, Py.qDo, Py.q1, Py.qIf, Py.qRt, Py.q0, Py.qAp, Py.mkF, Py.sbI, Py.ixD, Py.cpI, Py.asB, Py.truD, Py.tN, Py.tA, Py.tO, Py.vA, Py.vO, Py.vN, Py.cI, Py.iB, Py.ia0, Py.ia1, Py.iaM, Py.imD, Py.ngI, Py.liD, Py.tuD, Py.intD, Py.maxD, Py.minD, Py.sq, Py.flt, Py.ch, Py.itD, Py.itA, Py.asS, Option.bind_some, Option.bind_none, Option.map_some, Option.map_none, List.map_cons, List.map_nil, List.cons_append, List.nil_append, List.length_cons, List.length_nil, List.replicate, Int.reduceLT, Int.reduceLE, Int.reduceGT, Int.reduceGE, Int.reduceEq, Int.reduceNe, Int.reduceAdd, Int.reduceSub, Int.reduceMul, Int.reduceNeg, Int.reduceMod, Int.reduceDiv, Nat.reduceAdd, Nat.reduceLT, decide_true, decide_false, if_true, if_false, reduceIte, and_self, and_true, true_and, or_true, true_or, or_false, false_or, not_true_eq_false, not_false_eq_true, Bool.not_true, Bool.not_false, Bool.false_eq_true, Py.iaC, List.append_nil, w']
theorem refused {R : List D} {d : D} (h : NP R d) (N P : D) : f__law_refused [.lst R, N, P, d] = some (.rt (.bl true), []) := by
  have h := led_no h N P
  have rg : rg1 [.int (2 : Int)] = some (rgX 2) := rg1_nat (n := 2) (by decide)
  have b1' : isD "bool" (.int 0) = some (.bl false) := rfl
  obtain ⟨env', f1, x3, x4, x5, x6, rfl⟩ := for_at (as := Py.put 4) (b := l3__law_refused) (I := fun i env => ∃ x3 x4 x5 x6, env = [some (.lst R), some N, some P, some d, x3, x4, x5, x6])
    (rgX 2) 0 [some (.lst R), some N, some P, some d, none, none, none, none] (fun i env d' hd => by
      rintro ⟨x3, x4, x5, x6, rfl⟩
      obtain ⟨hi, rfl⟩ := rg_at hd
      have t : l2__law_refused [some (.lst R), some N, some P, some d, some (.int i), some .non, x5, x6] = some (.ex 0 (.int 0), [some (.lst R), some N, some P, some d, some (.int i), some .non, x5, x6]) := by
        simp only [l2__law_refused, eqD_i, neD_i, adD_i, vr0, vr1, vr2, vr3, vr4, vr5, vr6, vr7, vr8, vr9, vr10, vr11, vr12, vr13, vr14, vr15, vr16, vr17, vr18, vr19, vr20, vr21, vr22, vr23, put0, put1, put2, put3, put4, put5, put6, put7, put8, put9, put10, put11, put12, put13, put14, put15, put16, put17, put18, put19, put20, put21, put22, put23, onL0, onL1, onL2, onL3, onL4, onL5, onL6, onL7, onL8, onL9, onL10, onL11, onL12, onL13, onL14, onL15, onL16, onL17, onL18, onL19, onL20, onL21, onL22, onL23, isL0, isL1, isL2, isL3, isL4, isL5, isL6, isL7, isL8, isL9, isL10, isL11, isL12, isL13, isL14, isL15, isL16, isL17, isL18, isL19, isL20, isL21, isL22, isL23, mv0, mv1, mv2, mv3, mv4, mv5, mv6, mv7, mv8, mv9, mv10, mv11, mv12, mv13, mv14, mv15, mv16, mv17, mv18, mv19, mv20, mv21, mv22, mv23, oC0, oC1, oC2, oC3, oC4, oC5, oC6, oC7, ls0, ls1, ls2, ls3, ls4, ls5, ls6, ls7, ls8, ls9, ls10, ls11, ls12, tp0, tp1, tp2, tp3, tp4, tp5, tp6, tp7, tp8, tp9, tp10, tp11, tp12, Py.c0, Py.b1, Py.b2, Py.b3, Py.bA, Py.a0, Py.a1, Py.tb, Py.p2i, Py.qDo, Py.q1, Py.qIf, Py.qRt, Py.q0, Py.qAp, Py.mkF, Py.sbI, Py.ixD, Py.cpI, Py.asB, Py.truD, Py.tN, Py.tA, Py.tO, Py.vA, Py.vO, Py.vN, Py.cI, Py.iB, Py.ia0, Py.ia1, Py.iaM, Py.imD, Py.ngI, Py.liD, Py.tuD, Py.intD, Py.maxD, Py.minD, Py.sq, Py.flt, Py.ch, Py.itD, Py.itA, Py.asS, Option.bind_some, Option.bind_none, Option.map_some, Option.map_none, List.map_cons, List.map_nil, List.cons_append, List.nil_append, List.length_cons, List.length_nil, List.replicate, Int.reduceLT, Int.reduceLE, Int.reduceGT, Int.reduceGE, Int.reduceEq, Int.reduceNe, Int.reduceAdd, Int.reduceSub, Int.reduceMul, Int.reduceNeg, Int.reduceMod, Int.reduceDiv, Nat.reduceAdd, Nat.reduceLT, decide_true, decide_false, if_true, if_false, reduceIte, and_self, and_true, true_and, or_true, true_or, or_false, false_or, not_true_eq_false, not_false_eq_true, Bool.not_true, Bool.not_false, Bool.false_eq_true, Py.iaC, List.append_nil, h]
      have q := qTry_caught (i := 6) (m := m0__law_refused) (s := s0__law_refused) (fl := .nx) (env2 := [some (.lst R), some N, some P, some d, some (.int i), some (.int 0), none, some (.bl false)]) t rfl rfl (fun a od hd => by
        cases od with
        | none => cases hd rfl
        | some dd => simp only [s0__law_refused, x0_0__law_refused, eqD_i, neD_i, adD_i, vr0, vr1, vr2, vr3, vr4, vr5, vr6, vr7, vr8, vr9, vr10, vr11, vr12, vr13, vr14, vr15, vr16, vr17, vr18, vr19, vr20, vr21, vr22, vr23, put0, put1, put2, put3, put4, put5, put6, put7, put8, put9, put10, put11, put12, put13, put14, put15, put16, put17, put18, put19, put20, put21, put22, put23, onL0, onL1, onL2, onL3, onL4, onL5, onL6, onL7, onL8, onL9, onL10, onL11, onL12, onL13, onL14, onL15, onL16, onL17, onL18, onL19, onL20, onL21, onL22, onL23, isL0, isL1, isL2, isL3, isL4, isL5, isL6, isL7, isL8, isL9, isL10, isL11, isL12, isL13, isL14, isL15, isL16, isL17, isL18, isL19, isL20, isL21, isL22, isL23, mv0, mv1, mv2, mv3, mv4, mv5, mv6, mv7, mv8, mv9, mv10, mv11, mv12, mv13, mv14, mv15, mv16, mv17, mv18, mv19, mv20, mv21, mv22, mv23, oC0, oC1, oC2, oC3, oC4, oC5, oC6, oC7, ls0, ls1, ls2, ls3, ls4, ls5, ls6, ls7, ls8, ls9, ls10, ls11, ls12, tp0, tp1, tp2, tp3, tp4, tp5, tp6, tp7, tp8, tp9, tp10, tp11, tp12, Py.c0, Py.b1, Py.b2, Py.b3, Py.bA, Py.a0, Py.a1, Py.tb, Py.p2i, Py.qDo, Py.q1, Py.qIf, Py.qRt, Py.q0, Py.qAp, Py.mkF, Py.sbI, Py.ixD, Py.cpI, Py.asB, Py.truD, Py.tN, Py.tA, Py.tO, Py.vA, Py.vO, Py.vN, Py.cI, Py.iB, Py.ia0, Py.ia1, Py.iaM, Py.imD, Py.ngI, Py.liD, Py.tuD, Py.intD, Py.maxD, Py.minD, Py.sq, Py.flt, Py.ch, Py.itD, Py.itA, Py.asS, Option.bind_some, Option.bind_none, Option.map_some, Option.map_none, List.map_cons, List.map_nil, List.cons_append, List.nil_append, List.length_cons, List.length_nil, List.replicate, Int.reduceLT, Int.reduceLE, Int.reduceGT, Int.reduceGE, Int.reduceEq, Int.reduceNe, Int.reduceAdd, Int.reduceSub, Int.reduceMul, Int.reduceNeg, Int.reduceMod, Int.reduceDiv, Nat.reduceAdd, Nat.reduceLT, decide_true, decide_false, if_true, if_false, reduceIte, and_self, and_true, true_and, or_true, true_or, or_false, false_or, not_true_eq_false, not_false_eq_true, Bool.not_true, Bool.not_false, Bool.false_eq_true, List.set_cons_succ, List.set_cons_zero, isE_ex, atE_ex, b1'])
      refine ⟨_, put4, [some (.lst R), some N, some P, some d, some (.int i), some (.int 0), none, some (.bl false)], .inl ?_, _, _, _, _, rfl⟩
      simp only [l3__law_refused, eqD_i, neD_i, adD_i, vr0, vr1, vr2, vr3, vr4, vr5, vr6, vr7, vr8, vr9, vr10, vr11, vr12, vr13, vr14, vr15, vr16, vr17, vr18, vr19, vr20, vr21, vr22, vr23, put0, put1, put2, put3, put4, put5, put6, put7, put8, put9, put10, put11, put12, put13, put14, put15, put16, put17, put18, put19, put20, put21, put22, put23, onL0, onL1, onL2, onL3, onL4, onL5, onL6, onL7, onL8, onL9, onL10, onL11, onL12, onL13, onL14, onL15, onL16, onL17, onL18, onL19, onL20, onL21, onL22, onL23, isL0, isL1, isL2, isL3, isL4, isL5, isL6, isL7, isL8, isL9, isL10, isL11, isL12, isL13, isL14, isL15, isL16, isL17, isL18, isL19, isL20, isL21, isL22, isL23, mv0, mv1, mv2, mv3, mv4, mv5, mv6, mv7, mv8, mv9, mv10, mv11, mv12, mv13, mv14, mv15, mv16, mv17, mv18, mv19, mv20, mv21, mv22, mv23, oC0, oC1, oC2, oC3, oC4, oC5, oC6, oC7, ls0, ls1, ls2, ls3, ls4, ls5, ls6, ls7, ls8, ls9, ls10, ls11, ls12, tp0, tp1, tp2, tp3, tp4, tp5, tp6, tp7, tp8, tp9, tp10, tp11, tp12, Py.c0, Py.b1, Py.b2, Py.b3, Py.bA, Py.a0, Py.a1, Py.tb, Py.p2i, Py.qDo, Py.q1, Py.qIf, Py.qRt, Py.q0, Py.qAp, Py.mkF, Py.sbI, Py.ixD, Py.cpI, Py.asB, Py.truD, Py.tN, Py.tA, Py.tO, Py.vA, Py.vO, Py.vN, Py.cI, Py.iB, Py.ia0, Py.ia1, Py.iaM, Py.imD, Py.ngI, Py.liD, Py.tuD, Py.intD, Py.maxD, Py.minD, Py.sq, Py.flt, Py.ch, Py.itD, Py.itA, Py.asS, Option.bind_some, Option.bind_none, Option.map_some, Option.map_none, List.map_cons, List.map_nil, List.cons_append, List.nil_append, List.length_cons, List.length_nil, List.replicate, Int.reduceLT, Int.reduceLE, Int.reduceGT, Int.reduceGE, Int.reduceEq, Int.reduceNe, Int.reduceAdd, Int.reduceSub, Int.reduceMul, Int.reduceNeg, Int.reduceMod, Int.reduceDiv, Nat.reduceAdd, Nat.reduceLT, decide_true, decide_false, if_true, if_false, reduceIte, and_self, and_true, true_and, or_true, true_or, or_false, false_or, not_true_eq_false, not_false_eq_true, Bool.not_true, Bool.not_false, Bool.false_eq_true, q]) ⟨none, none, none, none, rfl⟩
  simp only [f__law_refused, b__law_refused, eqD_i, neD_i, adD_i, vr0, vr1, vr2, vr3, vr4, vr5, vr6, vr7, vr8, vr9, vr10, vr11, vr12, vr13, vr14, vr15, vr16, vr17, vr18, vr19, vr20, vr21, vr22, vr23, put0, put1, put2, put3, put4, put5, put6, put7, put8, put9, put10, put11, put12, put13, put14, put15, put16, put17, put18, put19, put20, put21, put22, put23, onL0, onL1, onL2, onL3, onL4, onL5, onL6, onL7, onL8, onL9, onL10, onL11, onL12, onL13, onL14, onL15, onL16, onL17, onL18, onL19, onL20, onL21, onL22, onL23, isL0, isL1, isL2, isL3, isL4, isL5, isL6, isL7, isL8, isL9, isL10, isL11, isL12, isL13, isL14, isL15, isL16, isL17, isL18, isL19, isL20, isL21, isL22, isL23, mv0, mv1, mv2, mv3, mv4, mv5, mv6, mv7, mv8, mv9, mv10, mv11, mv12, mv13, mv14, mv15, mv16, mv17, mv18, mv19, mv20, mv21, mv22, mv23, oC0, oC1, oC2, oC3, oC4, oC5, oC6, oC7, ls0, ls1, ls2, ls3, ls4, ls5, ls6, ls7, ls8, ls9, ls10, ls11, ls12, tp0, tp1, tp2, tp3, tp4, tp5, tp6, tp7, tp8, tp9, tp10, tp11, tp12, Py.c0, Py.b1, Py.b2, Py.b3, Py.bA, Py.a0, Py.a1, Py.tb, Py.p2i, Py.qDo, Py.q1, Py.qIf, Py.qRt, Py.q0, Py.qAp, Py.mkF, Py.sbI, Py.ixD, Py.cpI, Py.asB, Py.truD, Py.tN, Py.tA, Py.tO, Py.vA, Py.vO, Py.vN, Py.cI, Py.iB, Py.ia0, Py.ia1, Py.iaM, Py.imD, Py.ngI, Py.liD, Py.tuD, Py.intD, Py.maxD, Py.minD, Py.sq, Py.flt, Py.ch, Py.itD, Py.itA, Py.asS, Option.bind_some, Option.bind_none, Option.map_some, Option.map_none, List.map_cons, List.map_nil, List.cons_append, List.nil_append, List.length_cons, List.length_nil, List.replicate, Int.reduceLT, Int.reduceLE, Int.reduceGT, Int.reduceGE, Int.reduceEq, Int.reduceNe, Int.reduceAdd, Int.reduceSub, Int.reduceMul, Int.reduceNeg, Int.reduceMod, Int.reduceDiv, Nat.reduceAdd, Nat.reduceLT, decide_true, decide_false, if_true, if_false, reduceIte, and_self, and_true, true_and, or_true, true_or, or_false, false_or, not_true_eq_false, not_false_eq_true, Bool.not_true, Bool.not_false, Bool.false_eq_true, rg, Py.qFor, f1]
end K73

set_option Elab.async false
set_option linter.all false
set_option maxRecDepth 100000
set_option maxHeartbeats 16000000
namespace K73
open PySem PySem.Spec PyProof.Rows L2 Py
theorem caL_e (xs ys : List D) : caL (.lst xs) (.lst ys) = if xs.length + ys.length ≤ 16777216 then some (.lst (xs ++ ys)) else none := by
  show (if xs.length + ys.length ≤ sizeLine then some (D.lst (xs ++ ys)) else none) = _
  rw [sizeLine_eq]
theorem mem0 {α : Type} {P : α → Prop} : ∀ p ∈ ([] : List α), P p := fun p h => nomatch h
theorem mem1 {α : Type} {P : α → Prop} {x : α} {xs : List α} (h : P x) (h2 : ∀ p ∈ xs, P p) : ∀ p ∈ x :: xs, P p := fun p hp => by
  rcases List.mem_cons.mp hp with rfl | hp
  · exact h
  · exact h2 p hp
def LN (n st bk jp ze : Nat) (r : Int) : List D := [.non, .int r, .str "before", .tup [], .tup [.str "before"], .lst [.str "before", .int r], .tup [.str "before", .int r, .int r], .tup [.str "Before", .int r], .tup [.str "befor", .int r], .tup [.int r], .tup [.str "before", .int (-1)], .tup [.str "before", .int (n : Int)], .tup [.str "before", .bl true], .tup [.str "before", .str "0"], .tup [.str "before", .non], .tup [.str "", .int r], .tup [.str "after", .int (st : Int)], .tup [.str "after", .int (bk : Int)], .tup [.str "after", .int (n : Int)], .tup [.str "after", .int (-1)], .tup [.str "after", .int (ze : Int), .int 1], .tup [.str "after"], .tup [.str "after", .bl false], .lst [.str "after", .int (jp : Int)], .tup [.str "afters", .int (jp : Int)], .tup [.str "way", .int (ze : Int)], .tup [.str "way", .int (ze : Int), .int ((ze : Int) + 2 + (n : Int))], .tup [.str "way", .int (st : Int), .int 0], .tup [.str "way", .int (bk : Int), .int ((bk : Int) + 1)], .tup [.str "way", .int (jp : Int), .int (n : Int)], .tup [.str "way", .int (n : Int), .int 0], .tup [.str "way", .int (-1), .int 0], .tup [.str "way", .int (jp : Int), .bl false], .tup [.str "way", .int (ze : Int), .str "1"], .tup [.str "way", .int (ze : Int), .int 1, .int 1], .lst [.str "way", .int (jp : Int), .int 0], .tup [.str "way", .int (jp : Int), .int (-1)], .tup [.str "way", .int (jp : Int), .non], .tup [.str "ways", .int (jp : Int), .int 0]]
theorem all_np {R : List D} (n st bk jp ze : Nat) (r : Int) (hn : R.length = n) (hst : f_ways_of [.lst R, .int (st : Int)] = some (.rt (.lst []), [])) (hbk : f_ways_of [.lst R, .int (bk : Int)] = some (.rt (.lst []), [])) : ∀ d ∈ LN n st bk jp ze r, NP R d := by
  have bad_ : ∀ i : Int, ¬ (0 ≤ i ∧ i ≤ (R.length : Int) - 1) → f_is_from [.int i, .int 0, .int ((R.length : Int) - 1)] = some (.rt (.bl false), []) := fun i h => by
    rw [is_from, decide_eq_false h]
  unfold LN
  exact mem1 (np_no rfl) (mem1 (np_no rfl) (mem1 (np_no rfl) (mem1 (np_few (by simp)) (mem1 (np_few (by simp)) (mem1 (np_no rfl) (mem1 (np_gen (is_from r _ _) true false false (by kernel_rfl) (by kernel_rfl) (by kernel_rfl) (fun _ => by simp) (fun _ h => nomatch h) (fun _ _ h => nomatch h)) (mem1 (np_gen (is_from r _ _) false false false (by kernel_rfl) (by kernel_rfl) (by kernel_rfl) (fun h => nomatch h) (fun _ h => nomatch h) (fun _ _ h => nomatch h)) (mem1 (np_gen (is_from r _ _) false false false (by kernel_rfl) (by kernel_rfl) (by kernel_rfl) (fun h => nomatch h) (fun _ h => nomatch h) (fun _ _ h => nomatch h)) (mem1 (np_few (by simp)) (mem1 (np_from (bad_ (-1) (by omega))) (mem1 (np_from (bad_ (n : Int) (by omega))) (mem1 (np_from (by kernel_rfl)) (mem1 (np_from (by kernel_rfl)) (mem1 (np_from (by kernel_rfl)) (mem1 (np_gen (is_from r _ _) false false false (by kernel_rfl) (by kernel_rfl) (by kernel_rfl) (fun h => nomatch h) (fun _ h => nomatch h) (fun _ _ h => nomatch h)) (mem1 (np_gen (is_from (st : Int) _ _) false true false (by kernel_rfl) (by kernel_rfl) (by kernel_rfl) (fun h => nomatch h) (fun _ _ => .inr ⟨[], hst, rfl⟩) (fun _ _ h => nomatch h)) (mem1 (np_gen (is_from (bk : Int) _ _) false true false (by kernel_rfl) (by kernel_rfl) (by kernel_rfl) (fun h => nomatch h) (fun _ _ => .inr ⟨[], hbk, rfl⟩) (fun _ _ h => nomatch h)) (mem1 (np_from (bad_ (n : Int) (by omega))) (mem1 (np_from (bad_ (-1) (by omega))) (mem1 (np_gen (is_from (ze : Int) _ _) false true false (by kernel_rfl) (by kernel_rfl) (by kernel_rfl) (fun h => nomatch h) (fun _ _ => .inl (by simp)) (fun _ _ h => nomatch h)) (mem1 (np_few (by simp)) (mem1 (np_from (by kernel_rfl)) (mem1 (np_no rfl) (mem1 (np_gen (is_from (jp : Int) _ _) false false false (by kernel_rfl) (by kernel_rfl) (by kernel_rfl) (fun h => nomatch h) (fun _ h => nomatch h) (fun _ _ h => nomatch h)) (mem1 (np_gen (is_from (ze : Int) _ _) false false true (by kernel_rfl) (by kernel_rfl) (by kernel_rfl) (fun h => nomatch h) (fun _ h => nomatch h) (fun _ _ _ => .inl (by simp))) (mem1 (np_gen (is_from (ze : Int) _ _) false false true (by kernel_rfl) (by kernel_rfl) (by kernel_rfl) (fun h => nomatch h) (fun _ h => nomatch h) (fun _ _ _ => .inr ⟨_, rfl, false, (bad_ ((ze : Int) + 2 + (n : Int)) (by omega)), (fun h => nomatch h)⟩)) (mem1 (np_gen (is_from (st : Int) _ _) false false true (by kernel_rfl) (by kernel_rfl) (by kernel_rfl) (fun h => nomatch h) (fun _ h => nomatch h) (fun _ _ _ => .inr ⟨_, rfl, _, (is_from 0 _ _), (fun _ => ⟨[], hst, by kernel_rfl⟩)⟩)) (mem1 (np_gen (is_from (bk : Int) _ _) false false true (by kernel_rfl) (by kernel_rfl) (by kernel_rfl) (fun h => nomatch h) (fun _ h => nomatch h) (fun _ _ _ => .inr ⟨_, rfl, _, (is_from _ _ _), (fun _ => ⟨[], hbk, by kernel_rfl⟩)⟩)) (mem1 (np_gen (is_from (jp : Int) _ _) false false true (by kernel_rfl) (by kernel_rfl) (by kernel_rfl) (fun h => nomatch h) (fun _ h => nomatch h) (fun _ _ _ => .inr ⟨_, rfl, false, (bad_ (n : Int) (by omega)), (fun h => nomatch h)⟩)) (mem1 (np_from (bad_ (n : Int) (by omega))) (mem1 (np_from (bad_ (-1) (by omega))) (mem1 (np_gen (is_from (jp : Int) _ _) false false true (by kernel_rfl) (by kernel_rfl) (by kernel_rfl) (fun h => nomatch h) (fun _ h => nomatch h) (fun _ _ _ => .inr ⟨_, rfl, false, (by kernel_rfl), (fun h => nomatch h)⟩)) (mem1 (np_gen (is_from (ze : Int) _ _) false false true (by kernel_rfl) (by kernel_rfl) (by kernel_rfl) (fun h => nomatch h) (fun _ h => nomatch h) (fun _ _ _ => .inr ⟨_, rfl, false, (by kernel_rfl), (fun h => nomatch h)⟩)) (mem1 (np_gen (is_from (ze : Int) _ _) false false true (by kernel_rfl) (by kernel_rfl) (by kernel_rfl) (fun h => nomatch h) (fun _ h => nomatch h) (fun _ _ _ => .inl (by simp))) (mem1 (np_no rfl) (mem1 (np_gen (is_from (jp : Int) _ _) false false true (by kernel_rfl) (by kernel_rfl) (by kernel_rfl) (fun h => nomatch h) (fun _ h => nomatch h) (fun _ _ _ => .inr ⟨_, rfl, false, (bad_ (-1) (by omega)), (fun h => nomatch h)⟩)) (mem1 (np_gen (is_from (jp : Int) _ _) false false true (by kernel_rfl) (by kernel_rfl) (by kernel_rfl) (fun h => nomatch h) (fun _ h => nomatch h) (fun _ _ _ => .inr ⟨_, rfl, false, (by kernel_rfl), (fun h => nomatch h)⟩)) (mem1 (np_gen (is_from (jp : Int) _ _) false false false (by kernel_rfl) (by kernel_rfl) (by kernel_rfl) (fun h => nomatch h) (fun _ h => nomatch h) (fun _ _ h => nomatch h)) mem0))))))))))))))))))))))))))))))))))))))
theorem none_ {R : List D} (hp : Pg R) (c : Int) : ∃ d, f__law_none [.lst R, .int c] = some (.rt d, []) ∧ NP R d := by
  obtain ⟨st, d1, n1, s1, k1⟩ := number hp (w := "stop") (.inl rfl) hp.stop
  obtain ⟨bk, d2, n2, s2, k2⟩ := number hp (w := "back") (.inr (.inl rfl)) hp.back
  obtain ⟨jp, d3, n3, s3, k3⟩ := number hp (w := "jump") (.inr (.inr (.inl rfl))) hp.jump
  obtain ⟨ze, d4, n4, s4, k4⟩ := number hp (w := "zero") (.inr (.inr (.inr rfl))) hp.zero
  have f39 := fd 39 (by decide) (by decide) c
  have e39 := md 39 (by decide) c
  have eN := md (R.length : Int) (by have := hp.lo; omega) (c / 39)
  have al := all_np R.length st bk jp ze (c / 39 % (R.length : Int)) rfl (ways s1 k1) (ways s2 k2)
  have key : f__law_none [.lst R, .int c] = (atI (LN R.length st bk jp ze (c / 39 % (R.length : Int))) (c % 39)).map fun d => (.rt d, []) := by
    unfold LN
    generalize c / 39 % (R.length : Int) = r at *
    simp only [f__law_none, b__law_none, eqD_i, neD_i, adD_i, vr0, vr1, vr2, vr3, vr4, vr5, vr6, vr7, vr8, vr9, vr10, vr11, vr12, vr13, vr14, vr15, vr16, vr17, vr18, vr19, vr20, vr21, vr22, vr23, put0, put1, put2, put3, put4, put5, put6, put7, put8, put9, put10, put11, put12, put13, put14, put15, put16, put17, put18, put19, put20, put21, put22, put23, onL0, onL1, onL2, onL3, onL4, onL5, onL6, onL7, onL8, onL9, onL10, onL11, onL12, onL13, onL14, onL15, onL16, onL17, onL18, onL19, onL20, onL21, onL22, onL23, isL0, isL1, isL2, isL3, isL4, isL5, isL6, isL7, isL8, isL9, isL10, isL11, isL12, isL13, isL14, isL15, isL16, isL17, isL18, isL19, isL20, isL21, isL22, isL23, mv0, mv1, mv2, mv3, mv4, mv5, mv6, mv7, mv8, mv9, mv10, mv11, mv12, mv13, mv14, mv15, mv16, mv17, mv18, mv19, mv20, mv21, mv22, mv23, oC0, oC1, oC2, oC3, oC4, oC5, oC6, oC7, ls0, ls1, ls2, ls3, ls4, ls5, ls6, ls7, ls8, ls9, ls10, ls11, ls12, tp0, tp1, tp2, tp3, tp4, tp5, tp6, tp7, tp8, tp9, tp10, tp11, tp12, Py.c0, Py.b1, Py.b2, Py.b3, Py.bA, Py.a0, Py.a1, Py.tb, Py.p2i, Py.qDo, Py.q1, Py.qIf, Py.qRt, Py.q0, Py.qAp, Py.mkF, Py.sbI, Py.ixD, Py.cpI, Py.asB, Py.truD, Py.tN, Py.tA, Py.tO, Py.vA, Py.vO, Py.vN, Py.cI, Py.iB, Py.ia0, Py.ia1, Py.iaM, Py.imD, Py.ngI, Py.liD, Py.tuD, Py.intD, Py.maxD, Py.minD, Py.sq, Py.flt, Py.ch, Py.itD, Py.itA, Py.asS, Option.bind_some, Option.bind_none, Option.map_some, Option.map_none, List.map_cons, List.map_nil, List.cons_append, List.nil_append, List.length_cons, List.length_nil, List.replicate, Int.reduceLT, Int.reduceLE, Int.reduceGT, Int.reduceGE, Int.reduceEq, Int.reduceNe, Int.reduceAdd, Int.reduceSub, Int.reduceMul, Int.reduceNeg, Int.reduceMod, Int.reduceDiv, Nat.reduceAdd, Nat.reduceLT, decide_true, decide_false, if_true, if_false, reduceIte, and_self, and_true, true_and, or_true, true_or, or_false, false_or, not_true_eq_false, not_false_eq_true, Bool.not_true, Bool.not_false, Bool.false_eq_true, Nat.reduceLeDiff, Py.cD, List.append_nil, n1, n2, n3, n4, f39, e39, eN, len_l, caL_e]
    generalize atI _ (c % 39) = o
    cases o <;> simp only [eqD_i, neD_i, adD_i, vr0, vr1, vr2, vr3, vr4, vr5, vr6, vr7, vr8, vr9, vr10, vr11, vr12, vr13, vr14, vr15, vr16, vr17, vr18, vr19, vr20, vr21, vr22, vr23, put0, put1, put2, put3, put4, put5, put6, put7, put8, put9, put10, put11, put12, put13, put14, put15, put16, put17, put18, put19, put20, put21, put22, put23, onL0, onL1, onL2, onL3, onL4, onL5, onL6, onL7, onL8, onL9, onL10, onL11, onL12, onL13, onL14, onL15, onL16, onL17, onL18, onL19, onL20, onL21, onL22, onL23, isL0, isL1, isL2, isL3, isL4, isL5, isL6, isL7, isL8, isL9, isL10, isL11, isL12, isL13, isL14, isL15, isL16, isL17, isL18, isL19, isL20, isL21, isL22, isL23, mv0, mv1, mv2, mv3, mv4, mv5, mv6, mv7, mv8, mv9, mv10, mv11, mv12, mv13, mv14, mv15, mv16, mv17, mv18, mv19, mv20, mv21, mv22, mv23, oC0, oC1, oC2, oC3, oC4, oC5, oC6, oC7, ls0, ls1, ls2, ls3, ls4, ls5, ls6, ls7, ls8, ls9, ls10, ls11, ls12, tp0, tp1, tp2, tp3, tp4, tp5, tp6, tp7, tp8, tp9, tp10, tp11, tp12, Py.c0, Py.b1, Py.b2, Py.b3, Py.bA, Py.a0, Py.a1, Py.tb, Py.p2i, Py.qDo, Py.q1, Py.qIf, Py.qRt, Py.q0, Py.qAp, Py.mkF, Py.sbI, Py.ixD, Py.cpI, Py.asB, Py.truD, Py.tN, Py.tA, Py.tO, Py.vA, Py.vO, Py.vN, Py.cI, Py.iB, Py.ia0, Py.ia1, Py.iaM, Py.imD, Py.ngI, Py.liD, Py.tuD, Py.intD, Py.maxD, Py.minD, Py.sq, Py.flt, Py.ch, Py.itD, Py.itA, Py.asS, Option.bind_some, Option.bind_none, Option.map_some, Option.map_none, List.map_cons, List.map_nil, List.cons_append, List.nil_append, List.length_cons, List.length_nil, List.replicate, Int.reduceLT, Int.reduceLE, Int.reduceGT, Int.reduceGE, Int.reduceEq, Int.reduceNe, Int.reduceAdd, Int.reduceSub, Int.reduceMul, Int.reduceNeg, Int.reduceMod, Int.reduceDiv, Nat.reduceAdd, Nat.reduceLT, decide_true, decide_false, if_true, if_false, reduceIte, and_self, and_true, true_and, or_true, true_or, or_false, false_or, not_true_eq_false, not_false_eq_true, Bool.not_true, Bool.not_false, Bool.false_eq_true]
  obtain ⟨k, hk⟩ := Int.eq_ofNat_of_zero_le (emod_b c (show (0 : Int) < 39 by decide)).1
  have k2 := (emod_b c (show (0 : Int) < 39 by decide)).2
  have hl : (LN R.length st bk jp ze (c / 39 % (R.length : Int))).length = 39 := rfl
  have lz : k < (LN R.length st bk jp ze (c / 39 % (R.length : Int))).length := by omega
  rw [hk, at_nat lz] at key
  exact ⟨_, key, al _ (List.getElem_mem lz)⟩
end K73

set_option Elab.async false
set_option linter.all false
set_option maxRecDepth 100000
set_option maxHeartbeats 16000000
namespace K73
open PySem PySem.Spec PyProof.Rows L2 Py
theorem inD_ints (neg : Bool) (k : Int) (ns : List Int) : inD neg (.int k) (.lst (ns.map .int)) = some (.bl (xor neg (decide (k ∈ ns)))) := by
  have o : D.oks 59 (ns.map D.int) = true := oks_ints
  show (if ((D.int k).ok 60 && D.oks 59 (ns.map .int)) = true then some (D.bl (xor neg ((ns.map D.int).any fun y => PyData.eqv y.py (D.int k).py))) else none) = _
  rw [o, if_pos (by rfl)]
  congr 3
  rw [List.any_map]
  induction ns with
  | nil => rfl
  | cons n ns ih =>
    rw [List.any_cons, ih oks_ints]
    show (PyData.eqv (D.int n).py (D.int k).py || _) = _
    rw [eqv_int]
    by_cases h : n = k
    · subst h; simp
    · have h' : ¬ k = n := fun z => h z.symm
      simp [h, h']
def dks (n : Nat) : List Key := (List.range n).map fun (k : Nat) => .inl (k : Int)
theorem dks_len (n : Nat) : (dks n).length = n := by unfold dks; rw [List.length_map, List.length_range]
theorem dks_no (n : Nat) : hasK (dks n) (.inl (n : Int)) = false := by
  unfold hasK
  rw [List.any_eq_false]
  intro j hj
  obtain ⟨k, hk, rfl⟩ := List.mem_map.mp hj
  have := List.mem_range.mp hk
  rw [decide_eq_true_eq]
  intro e
  have := Sum.inl.inj e
  omega
theorem dlk_at : ∀ (xs : List Nat), xs.Nodup → ∀ k ∈ xs, dlk (xs.map fun (k : Nat) => (.inl (k : Int) : Key)) (xs.map fun (k : Nat) => D.int (k : Int)) (.inl (k : Int)) = some (.int (k : Int))
  | [], _, k, h => nomatch h
  | x :: xs, nd, k, h => by
    obtain ⟨n1, n2⟩ := List.nodup_cons.mp nd
    show (if (.inl (x : Int) : Key) = .inl (k : Int) then some (D.int (x : Int)) else dlk _ _ _) = _
    by_cases e : x = k
    · subst e
      rw [if_pos rfl]
    · rw [if_neg fun z => e (by have := Sum.inl.inj z; omega)]
      exact dlk_at xs n2 k ((List.mem_cons.mp h).resolve_left fun z => e z.symm)
theorem dix (n k : Nat) (h : k < n) : dixD (.dic (dks n) (rgX n)) (.int (k : Int)) = some (.int (k : Int)) := dlk_at (List.range n) List.nodup_range k (List.mem_range.mpr h)
theorem standing (n : Nat) (hn : n ≤ 1000) : f_standing [.lst (rgX n)] = some (.rt (.dic (dks n) (rgX n)), []) := by
  obtain ⟨env', f1, x2, x3, rfl⟩ := for_at (as := gT (g1 (Py.put 2) (g1 (Py.put 3) g0))) (b := l0_standing) (I := fun i env => ∃ x2 x3, env = [some (.lst (rgX n)), some (.dic (dks i) (rgX i)), x2, x3])
    (enL 0 (rgX n)) 0 [some (.lst (rgX n)), some (.dic [] []), none, none] (fun i env d hd => by
      rintro ⟨x2, x3, rfl⟩
      obtain ⟨x, hx, rfl⟩ := en_at hd
      obtain ⟨hi, rfl⟩ := rg_at hx
      have i1 : isN true (.int (i : Int)) .non = some (.bl true) := rfl
      have e1 : dpk (dks i) (.inl (i : Int)) = dks (i + 1) := by
        unfold dpk
        rw [dks_no, if_neg Bool.false_ne_true]
        unfold dks
        rw [List.range_succ, List.map_append]
        rfl
      have e2 : dpv (dks i) (rgX i) (.inl (i : Int)) (.int (i : Int)) = rgX (i + 1) := by
        unfold dpv
        rw [dks_no, if_neg Bool.false_ne_true]
        unfold rgX
        rw [List.range_succ, List.map_append]
        rfl
      rw [Nat.zero_add]
      have on : onD 1 (.int (i : Int)) (.int (i : Int)) [some (.lst (rgX n)), some (.dic (dks i) (rgX i)), some (.int (i : Int)), some (.int (i : Int))] = some [some (.lst (rgX n)), some (.dic (dks (i + 1)) (rgX (i + 1))), some (.int (i : Int)), some (.int (i : Int))] := by
        show (if (dks i).length < sizeLine then some (([some (.lst (rgX n)), some (.dic (dks i) (rgX i)), some (.int (i : Int)), some (.int (i : Int))] : En).set 1 (some (.dic (dpk (dks i) (.inl (i : Int))) (dpv (dks i) (rgX i) (.inl (i : Int)) (.int (i : Int)))))) else none) = _
        rw [if_pos (by rw [dks_len, sizeLine_eq]; omega), e1, e2]
        rfl
      refine ⟨[some (.lst (rgX n)), some (.dic (dks i) (rgX i)), some (.int (i : Int)), some (.int (i : Int))], rfl, _, .inl ?_, some (.int (i : Int)), some (.int (i : Int)), rfl⟩
      simp only [l0_standing, eqD_i, neD_i, adD_i, vr0, vr1, vr2, vr3, vr4, vr5, vr6, vr7, vr8, vr9, vr10, vr11, vr12, vr13, vr14, vr15, vr16, vr17, vr18, vr19, vr20, vr21, vr22, vr23, put0, put1, put2, put3, put4, put5, put6, put7, put8, put9, put10, put11, put12, put13, put14, put15, put16, put17, put18, put19, put20, put21, put22, put23, onL0, onL1, onL2, onL3, onL4, onL5, onL6, onL7, onL8, onL9, onL10, onL11, onL12, onL13, onL14, onL15, onL16, onL17, onL18, onL19, onL20, onL21, onL22, onL23, isL0, isL1, isL2, isL3, isL4, isL5, isL6, isL7, isL8, isL9, isL10, isL11, isL12, isL13, isL14, isL15, isL16, isL17, isL18, isL19, isL20, isL21, isL22, isL23, mv0, mv1, mv2, mv3, mv4, mv5, mv6, mv7, mv8, mv9, mv10, mv11, mv12, mv13, mv14, mv15, mv16, mv17, mv18, mv19, mv20, mv21, mv22, mv23, oC0, oC1, oC2, oC3, oC4, oC5, oC6, oC7, ls0, ls1, ls2, ls3, ls4, ls5, ls6, ls7, ls8, ls9, ls10, ls11, ls12, tp0, tp1, tp2, tp3, tp4, tp5, tp6, tp7, tp8, tp9, tp10, tp11, tp12, Py.c0, Py.b1, Py.b2, Py.b3, Py.bA, Py.a0, Py.a1, Py.tb, Py.p2i, Py.qDo, Py.q1, Py.qIf, Py.qRt, Py.q0, Py.qAp, Py.mkF, Py.sbI, Py.ixD, Py.cpI, Py.asB, Py.truD, Py.tN, Py.tA, Py.tO, Py.vA, Py.vO, Py.vN, Py.cI, Py.iB, Py.ia0, Py.ia1, Py.iaM, Py.imD, Py.ngI, Py.liD, Py.tuD, Py.intD, Py.maxD, Py.minD, Py.sq, Py.flt, Py.ch, Py.itD, Py.itA, Py.asS, Option.bind_some, Option.bind_none, Option.map_some, Option.map_none, List.map_cons, List.map_nil, List.cons_append, List.nil_append, List.length_cons, List.length_nil, List.replicate, Int.reduceLT, Int.reduceLE, Int.reduceGT, Int.reduceGE, Int.reduceEq, Int.reduceNe, Int.reduceAdd, Int.reduceSub, Int.reduceMul, Int.reduceNeg, Int.reduceMod, Int.reduceDiv, Nat.reduceAdd, Nat.reduceLT, decide_true, decide_false, if_true, if_false, reduceIte, and_self, and_true, true_and, or_true, true_or, or_false, false_or, not_true_eq_false, not_false_eq_true, Bool.not_true, Bool.not_false, Bool.false_eq_true, i1, on]) ⟨none, none, rfl⟩
  rw [Nat.zero_add, en_len, rgX_len] at f1
  simp only [f_standing, b_standing, eqD_i, neD_i, adD_i, vr0, vr1, vr2, vr3, vr4, vr5, vr6, vr7, vr8, vr9, vr10, vr11, vr12, vr13, vr14, vr15, vr16, vr17, vr18, vr19, vr20, vr21, vr22, vr23, put0, put1, put2, put3, put4, put5, put6, put7, put8, put9, put10, put11, put12, put13, put14, put15, put16, put17, put18, put19, put20, put21, put22, put23, onL0, onL1, onL2, onL3, onL4, onL5, onL6, onL7, onL8, onL9, onL10, onL11, onL12, onL13, onL14, onL15, onL16, onL17, onL18, onL19, onL20, onL21, onL22, onL23, isL0, isL1, isL2, isL3, isL4, isL5, isL6, isL7, isL8, isL9, isL10, isL11, isL12, isL13, isL14, isL15, isL16, isL17, isL18, isL19, isL20, isL21, isL22, isL23, mv0, mv1, mv2, mv3, mv4, mv5, mv6, mv7, mv8, mv9, mv10, mv11, mv12, mv13, mv14, mv15, mv16, mv17, mv18, mv19, mv20, mv21, mv22, mv23, oC0, oC1, oC2, oC3, oC4, oC5, oC6, oC7, ls0, ls1, ls2, ls3, ls4, ls5, ls6, ls7, ls8, ls9, ls10, ls11, ls12, tp0, tp1, tp2, tp3, tp4, tp5, tp6, tp7, tp8, tp9, tp10, tp11, tp12, Py.c0, Py.b1, Py.b2, Py.b3, Py.bA, Py.a0, Py.a1, Py.tb, Py.p2i, Py.qDo, Py.q1, Py.qIf, Py.qRt, Py.q0, Py.qAp, Py.mkF, Py.sbI, Py.ixD, Py.cpI, Py.asB, Py.truD, Py.tN, Py.tA, Py.tO, Py.vA, Py.vO, Py.vN, Py.cI, Py.iB, Py.ia0, Py.ia1, Py.iaM, Py.imD, Py.ngI, Py.liD, Py.tuD, Py.intD, Py.maxD, Py.minD, Py.sq, Py.flt, Py.ch, Py.itD, Py.itA, Py.asS, Option.bind_some, Option.bind_none, Option.map_some, Option.map_none, List.map_cons, List.map_nil, List.cons_append, List.nil_append, List.length_cons, List.length_nil, List.replicate, Int.reduceLT, Int.reduceLE, Int.reduceGT, Int.reduceGE, Int.reduceEq, Int.reduceNe, Int.reduceAdd, Int.reduceSub, Int.reduceMul, Int.reduceNeg, Int.reduceMod, Int.reduceDiv, Nat.reduceAdd, Nat.reduceLT, decide_true, decide_false, if_true, if_false, reduceIte, and_self, and_true, true_and, or_true, true_or, or_false, false_or, not_true_eq_false, not_false_eq_true, Bool.not_true, Bool.not_false, Bool.false_eq_true, Py.dnwF, Py.qFor, Py.itD, Py.enD, f1]
theorem wh_rt {t : En → Option Bool} {b : SE} {env e : En} {n : Nat} {d : D} (ht : t env = some true) (hb : b env = some (.rt d, e)) : whN t b (n + 1) env = some (.rt d, e) := by
  show (match t env with
    | some false => some (Fl.nx, env)
    | some true => (match b env with
      | some (.nx, e) => whN t b n e
      | some (.ct, e) => whN t b n e
      | some (.bk, e) => some (Fl.nx, e)
      | r => r)
    | none => none) = _
  rw [ht, hb]
theorem walk (N : List D) (n k : Nat) (h : k < n) : f_end_of_walk [.lst N, .lst (rgX n), .int (k : Int)] = some (.rt (.int (k : Int)), []) := by
  have a : atI (rgX n) (k : Int) = some (.int (k : Int)) := by
    rw [at_nat (by rw [rgX_len]; exact h), List.getElem_map, List.getElem_range]
  have i1 : isN true (.int (k : Int)) .non = some (.bl true) := rfl
  have n1 : neD (.lst [.int (k : Int)]) (.lst []) = some (.bl true) := by kernel_rfl
  have t : (tb (b2 (vr 3) (bA a0 lstD) neD) asB) [some (.lst N), some (.lst (rgX n)), some (.int (k : Int)), some (.lst [.int (k : Int)]), some (.dic [] []), none] = some true := by
    simp only [eqD_i, neD_i, adD_i, vr0, vr1, vr2, vr3, vr4, vr5, vr6, vr7, vr8, vr9, vr10, vr11, vr12, vr13, vr14, vr15, vr16, vr17, vr18, vr19, vr20, vr21, vr22, vr23, put0, put1, put2, put3, put4, put5, put6, put7, put8, put9, put10, put11, put12, put13, put14, put15, put16, put17, put18, put19, put20, put21, put22, put23, onL0, onL1, onL2, onL3, onL4, onL5, onL6, onL7, onL8, onL9, onL10, onL11, onL12, onL13, onL14, onL15, onL16, onL17, onL18, onL19, onL20, onL21, onL22, onL23, isL0, isL1, isL2, isL3, isL4, isL5, isL6, isL7, isL8, isL9, isL10, isL11, isL12, isL13, isL14, isL15, isL16, isL17, isL18, isL19, isL20, isL21, isL22, isL23, mv0, mv1, mv2, mv3, mv4, mv5, mv6, mv7, mv8, mv9, mv10, mv11, mv12, mv13, mv14, mv15, mv16, mv17, mv18, mv19, mv20, mv21, mv22, mv23, oC0, oC1, oC2, oC3, oC4, oC5, oC6, oC7, ls0, ls1, ls2, ls3, ls4, ls5, ls6, ls7, ls8, ls9, ls10, ls11, ls12, tp0, tp1, tp2, tp3, tp4, tp5, tp6, tp7, tp8, tp9, tp10, tp11, tp12, Py.c0, Py.b1, Py.b2, Py.b3, Py.bA, Py.a0, Py.a1, Py.tb, Py.p2i, Py.qDo, Py.q1, Py.qIf, Py.qRt, Py.q0, Py.qAp, Py.mkF, Py.sbI, Py.ixD, Py.cpI, Py.asB, Py.truD, Py.tN, Py.tA, Py.tO, Py.vA, Py.vO, Py.vN, Py.cI, Py.iB, Py.ia0, Py.ia1, Py.iaM, Py.imD, Py.ngI, Py.liD, Py.tuD, Py.intD, Py.maxD, Py.minD, Py.sq, Py.flt, Py.ch, Py.itD, Py.itA, Py.asS, Option.bind_some, Option.bind_none, Option.map_some, Option.map_none, List.map_cons, List.map_nil, List.cons_append, List.nil_append, List.length_cons, List.length_nil, List.replicate, n1]
  have pp : popE 3 [some (.lst N), some (.lst (rgX n)), some (.int (k : Int)), some (.lst [.int (k : Int)]), some (.dic [] []), none] = some (.ok (.int (k : Int)), [some (.lst N), some (.lst (rgX n)), some (.int (k : Int)), some (.lst []), some (.dic [] []), none]) := rfl
  have b : l0_end_of_walk [some (.lst N), some (.lst (rgX n)), some (.int (k : Int)), some (.lst [.int (k : Int)]), some (.dic [] []), none] = some (.rt (.int (k : Int)), [some (.lst N), some (.lst (rgX n)), some (.int (k : Int)), some (.lst []), some (.dic [] []), some (.int (k : Int))]) := by
    simp only [l0_end_of_walk, eqD_i, neD_i, adD_i, vr0, vr1, vr2, vr3, vr4, vr5, vr6, vr7, vr8, vr9, vr10, vr11, vr12, vr13, vr14, vr15, vr16, vr17, vr18, vr19, vr20, vr21, vr22, vr23, put0, put1, put2, put3, put4, put5, put6, put7, put8, put9, put10, put11, put12, put13, put14, put15, put16, put17, put18, put19, put20, put21, put22, put23, onL0, onL1, onL2, onL3, onL4, onL5, onL6, onL7, onL8, onL9, onL10, onL11, onL12, onL13, onL14, onL15, onL16, onL17, onL18, onL19, onL20, onL21, onL22, onL23, isL0, isL1, isL2, isL3, isL4, isL5, isL6, isL7, isL8, isL9, isL10, isL11, isL12, isL13, isL14, isL15, isL16, isL17, isL18, isL19, isL20, isL21, isL22, isL23, mv0, mv1, mv2, mv3, mv4, mv5, mv6, mv7, mv8, mv9, mv10, mv11, mv12, mv13, mv14, mv15, mv16, mv17, mv18, mv19, mv20, mv21, mv22, mv23, oC0, oC1, oC2, oC3, oC4, oC5, oC6, oC7, ls0, ls1, ls2, ls3, ls4, ls5, ls6, ls7, ls8, ls9, ls10, ls11, ls12, tp0, tp1, tp2, tp3, tp4, tp5, tp6, tp7, tp8, tp9, tp10, tp11, tp12, Py.c0, Py.b1, Py.b2, Py.b3, Py.bA, Py.a0, Py.a1, Py.tb, Py.p2i, Py.qDo, Py.q1, Py.qIf, Py.qRt, Py.q0, Py.qAp, Py.mkF, Py.sbI, Py.ixD, Py.cpI, Py.asB, Py.truD, Py.tN, Py.tA, Py.tO, Py.vA, Py.vO, Py.vN, Py.cI, Py.iB, Py.ia0, Py.ia1, Py.iaM, Py.imD, Py.ngI, Py.liD, Py.tuD, Py.intD, Py.maxD, Py.minD, Py.sq, Py.flt, Py.ch, Py.itD, Py.itA, Py.asS, Option.bind_some, Option.bind_none, Option.map_some, Option.map_none, List.map_cons, List.map_nil, List.cons_append, List.nil_append, List.length_cons, List.length_nil, List.replicate, Int.reduceLT, Int.reduceLE, Int.reduceGT, Int.reduceGE, Int.reduceEq, Int.reduceNe, Int.reduceAdd, Int.reduceSub, Int.reduceMul, Int.reduceNeg, Int.reduceMod, Int.reduceDiv, Nat.reduceAdd, Nat.reduceLT, decide_true, decide_false, if_true, if_false, reduceIte, and_self, and_true, true_and, or_true, true_or, or_false, false_or, not_true_eq_false, not_false_eq_true, Bool.not_true, Bool.not_false, Bool.false_eq_true, pp, a, i1]
  have w : qWh (tb (b2 (vr 3) (bA a0 lstD) neD) asB) l0_end_of_walk [some (.lst N), some (.lst (rgX n)), some (.int (k : Int)), some (.lst [.int (k : Int)]), some (.dic [] []), none] = some (.rt (.int (k : Int)), [some (.lst N), some (.lst (rgX n)), some (.int (k : Int)), some (.lst []), some (.dic [] []), some (.int (k : Int))]) := qWh_of (n := 0 + 1) (wh_rt t b)
  simp only [f_end_of_walk, b_end_of_walk, eqD_i, neD_i, adD_i, vr0, vr1, vr2, vr3, vr4, vr5, vr6, vr7, vr8, vr9, vr10, vr11, vr12, vr13, vr14, vr15, vr16, vr17, vr18, vr19, vr20, vr21, vr22, vr23, put0, put1, put2, put3, put4, put5, put6, put7, put8, put9, put10, put11, put12, put13, put14, put15, put16, put17, put18, put19, put20, put21, put22, put23, onL0, onL1, onL2, onL3, onL4, onL5, onL6, onL7, onL8, onL9, onL10, onL11, onL12, onL13, onL14, onL15, onL16, onL17, onL18, onL19, onL20, onL21, onL22, onL23, isL0, isL1, isL2, isL3, isL4, isL5, isL6, isL7, isL8, isL9, isL10, isL11, isL12, isL13, isL14, isL15, isL16, isL17, isL18, isL19, isL20, isL21, isL22, isL23, mv0, mv1, mv2, mv3, mv4, mv5, mv6, mv7, mv8, mv9, mv10, mv11, mv12, mv13, mv14, mv15, mv16, mv17, mv18, mv19, mv20, mv21, mv22, mv23, oC0, oC1, oC2, oC3, oC4, oC5, oC6, oC7, ls0, ls1, ls2, ls3, ls4, ls5, ls6, ls7, ls8, ls9, ls10, ls11, ls12, tp0, tp1, tp2, tp3, tp4, tp5, tp6, tp7, tp8, tp9, tp10, tp11, tp12, Py.c0, Py.b1, Py.b2, Py.b3, Py.bA, Py.a0, Py.a1, Py.tb, Py.p2i, Py.qDo, Py.q1, Py.qIf, Py.qRt, Py.q0, Py.qAp, Py.mkF, Py.sbI, Py.ixD, Py.cpI, Py.asB, Py.truD, Py.tN, Py.tA, Py.tO, Py.vA, Py.vO, Py.vN, Py.cI, Py.iB, Py.ia0, Py.ia1, Py.iaM, Py.imD, Py.ngI, Py.liD, Py.tuD, Py.intD, Py.maxD, Py.minD, Py.sq, Py.flt, Py.ch, Py.itD, Py.itA, Py.asS, Option.bind_some, Option.bind_none, Option.map_some, Option.map_none, List.map_cons, List.map_nil, List.cons_append, List.nil_append, List.length_cons, List.length_nil, List.replicate, Int.reduceLT, Int.reduceLE, Int.reduceGT, Int.reduceGE, Int.reduceEq, Int.reduceNe, Int.reduceAdd, Int.reduceSub, Int.reduceMul, Int.reduceNeg, Int.reduceMod, Int.reduceDiv, Nat.reduceAdd, Nat.reduceLT, decide_true, decide_false, if_true, if_false, reduceIte, and_self, and_true, true_and, or_true, true_or, or_false, false_or, not_true_eq_false, not_false_eq_true, Bool.not_true, Bool.not_false, Bool.false_eq_true, Py.dnwF, w]
/-- places led: where the paper's leads are the rows' own numbers -/
theorem led_same {R N : List D} {P d : D} {w : Str} {k : Nat} {rest : List D} (hw : d = .tup (.str w :: .int (k : Int) :: rest)) (hn : R.length ≤ 1000) (hk : k < R.length) (hp : f_is_place [.lst R, d] = some (.rt (.bl true), [])) (hl : dixD P (.str "leads") = some (.lst (rgX R.length)))
    (hc : (neD (.str w) (.str "way") = some (.bl true) ∧ rest = []) ∨ (neD (.str w) (.str "way") = some (.bl false) ∧ ∃ (t : Nat) (ws : List Nat), rest = [.int (t : Int)] ∧ f_ways_of [.lst N, .int (k : Int)] = some (.rt (.lst (ws.map fun (i : Nat) => D.int (i : Int))), []) ∧ (∀ i ∈ ws, i < R.length) ∧ ws.filter (fun i => decide (i = t)) = [t])) (hww : rest ≠ [] → w = "way") :
    f_places_led [.lst R, .lst N, P, d] = some (.rt (.lst [d]), []) := by
  have wo : f_check_wishes [.lst R, .lst [.tup [d, .tup [.str "count", .int 0]]]] = some (.rt .non, []) := wishes R hp
  have sd := standing R.length hn
  have dx := dix R.length k hk
  have at0 : atI (D.str w :: .int (k : Int) :: rest) 0 = some (.str w) := at_nat (xs := D.str w :: .int (k : Int) :: rest) (i := 0) (by simp)
  have at1 : atI (D.str w :: .int (k : Int) :: rest) 1 = some (.int (k : Int)) := at_nat (xs := D.str w :: .int (k : Int) :: rest) (i := 1) (by simp)
  rw [hw] at wo
  rcases hc with ⟨h1, rfl⟩ | ⟨h1, t, ws, rfl, hy, hlt, hf⟩
  · rw [hw]
    generalize rgX R.length = LL at *
    simp only [f_places_led, b_places_led, eqD_i, neD_i, adD_i, vr0, vr1, vr2, vr3, vr4, vr5, vr6, vr7, vr8, vr9, vr10, vr11, vr12, vr13, vr14, vr15, vr16, vr17, vr18, vr19, vr20, vr21, vr22, vr23, put0, put1, put2, put3, put4, put5, put6, put7, put8, put9, put10, put11, put12, put13, put14, put15, put16, put17, put18, put19, put20, put21, put22, put23, onL0, onL1, onL2, onL3, onL4, onL5, onL6, onL7, onL8, onL9, onL10, onL11, onL12, onL13, onL14, onL15, onL16, onL17, onL18, onL19, onL20, onL21, onL22, onL23, isL0, isL1, isL2, isL3, isL4, isL5, isL6, isL7, isL8, isL9, isL10, isL11, isL12, isL13, isL14, isL15, isL16, isL17, isL18, isL19, isL20, isL21, isL22, isL23, mv0, mv1, mv2, mv3, mv4, mv5, mv6, mv7, mv8, mv9, mv10, mv11, mv12, mv13, mv14, mv15, mv16, mv17, mv18, mv19, mv20, mv21, mv22, mv23, oC0, oC1, oC2, oC3, oC4, oC5, oC6, oC7, ls0, ls1, ls2, ls3, ls4, ls5, ls6, ls7, ls8, ls9, ls10, ls11, ls12, tp0, tp1, tp2, tp3, tp4, tp5, tp6, tp7, tp8, tp9, tp10, tp11, tp12, Py.c0, Py.b1, Py.b2, Py.b3, Py.bA, Py.a0, Py.a1, Py.tb, Py.p2i, Py.qDo, Py.q1, Py.qIf, Py.qRt, Py.q0, Py.qAp, Py.mkF, Py.sbI, Py.ixD, Py.cpI, Py.asB, Py.truD, Py.tN, Py.tA, Py.tO, Py.vA, Py.vO, Py.vN, Py.cI, Py.iB, Py.ia0, Py.ia1, Py.iaM, Py.imD, Py.ngI, Py.liD, Py.tuD, Py.intD, Py.maxD, Py.minD, Py.sq, Py.flt, Py.ch, Py.itD, Py.itA, Py.asS, Option.bind_some, Option.bind_none, Option.map_some, Option.map_none, List.map_cons, List.map_nil, List.cons_append, List.nil_append, List.length_cons, List.length_nil, List.replicate, Int.reduceLT, Int.reduceLE, Int.reduceGT, Int.reduceGE, Int.reduceEq, Int.reduceNe, Int.reduceAdd, Int.reduceSub, Int.reduceMul, Int.reduceNeg, Int.reduceMod, Int.reduceDiv, Nat.reduceAdd, Nat.reduceLT, decide_true, decide_false, if_true, if_false, reduceIte, and_self, and_true, true_and, or_true, true_or, or_false, false_or, not_true_eq_false, not_false_eq_true, Bool.not_true, Bool.not_false, Bool.false_eq_true, Py.iaC, Py.cD, List.append_nil, wo, hl, sd, at0, at1, dx, h1]
  · have ew := hww (by simp)
    subst ew
    have at2 : atI [D.str "way", .int (k : Int), .int (t : Int)] 2 = some (.int (t : Int)) := rfl
    obtain ⟨env', f1, x7, rfl⟩ := for_at (as := Py.put 7) (b := l0_places_led) (I := fun i env => ∃ x7, env = [some (.lst R), some (.lst N), some P, some (.tup [.str "way", .int (k : Int), .int (t : Int)]), some (.lst (rgX R.length)), some (.int (k : Int)), some (.lst (((ws.take i).filter (fun i => decide (i = t))).map fun (i : Nat) => D.tup [.str "way", .int (k : Int), .int (i : Int)])), x7])
      (ws.map fun (i : Nat) => D.int (i : Int)) 0 [some (.lst R), some (.lst N), some P, some (.tup [.str "way", .int (k : Int), .int (t : Int)]), some (.lst (rgX R.length)), some (.int (k : Int)), some (.lst []), none] (fun i env d hd => by
        rintro ⟨x7, rfl⟩
        rw [List.getElem?_map] at hd
        obtain ⟨j, hj, rfl⟩ := Option.map_eq_some_iff.mp hd
        have wk := walk N R.length j (hlt j (List.mem_of_getElem? hj))
        have hf1 : ((ws.filter fun i => decide (i = t)).length) = 1 := by rw [hf]; rfl
        rw [Nat.zero_add]
        have tk : ws.take (i + 1) = ws.take i ++ [j] := by rw [List.take_add_one, hj]; rfl
        have hs : ((ws.take i).filter fun i => decide (i = t)).length ≤ 1 := by
          rw [← hf1]
          exact (((List.take_sublist i ws).filter _).length_le)
        by_cases q : j = t
        · subst q
          have ap := ap_len (x := .tup [.str "way", .int (k : Int), .int (j : Int)]) (xs := ((ws.take i).filter (fun i => decide (i = j))).map fun (i : Nat) => D.tup [.str "way", .int (k : Int), .int (i : Int)]) (by rw [List.length_map]; omega)
          refine ⟨_, put7, [some (.lst R), some (.lst N), some P, some (.tup [.str "way", .int (k : Int), .int (j : Int)]), some (.lst (rgX R.length)), some (.int (k : Int)), some (.lst ((((ws.take i).filter (fun i => decide (i = j))).map fun (i : Nat) => D.tup [.str "way", .int (k : Int), .int (i : Int)]) ++ [.tup [.str "way", .int (k : Int), .int (j : Int)]])), some (.int (j : Int))], .inl ?_, some (.int (j : Int)), ?_⟩
          · generalize ((ws.take i).filter (fun i => decide (i = j))).map (fun (i : Nat) => D.tup [.str "way", .int (k : Int), .int (i : Int)]) = A at *
            generalize rgX R.length = LL at *
            simp only [l0_places_led, eqD_i, neD_i, adD_i, vr0, vr1, vr2, vr3, vr4, vr5, vr6, vr7, vr8, vr9, vr10, vr11, vr12, vr13, vr14, vr15, vr16, vr17, vr18, vr19, vr20, vr21, vr22, vr23, put0, put1, put2, put3, put4, put5, put6, put7, put8, put9, put10, put11, put12, put13, put14, put15, put16, put17, put18, put19, put20, put21, put22, put23, onL0, onL1, onL2, onL3, onL4, onL5, onL6, onL7, onL8, onL9, onL10, onL11, onL12, onL13, onL14, onL15, onL16, onL17, onL18, onL19, onL20, onL21, onL22, onL23, isL0, isL1, isL2, isL3, isL4, isL5, isL6, isL7, isL8, isL9, isL10, isL11, isL12, isL13, isL14, isL15, isL16, isL17, isL18, isL19, isL20, isL21, isL22, isL23, mv0, mv1, mv2, mv3, mv4, mv5, mv6, mv7, mv8, mv9, mv10, mv11, mv12, mv13, mv14, mv15, mv16, mv17, mv18, mv19, mv20, mv21, mv22, mv23, oC0, oC1, oC2, oC3, oC4, oC5, oC6, oC7, ls0, ls1, ls2, ls3, ls4, ls5, ls6, ls7, ls8, ls9, ls10, ls11, ls12, tp0, tp1, tp2, tp3, tp4, tp5, tp6, tp7, tp8, tp9, tp10, tp11, tp12, Py.c0, Py.b1, Py.b2, Py.b3, Py.bA, Py.a0, Py.a1, Py.tb, Py.p2i, Py.qDo, Py.q1, Py.qIf, Py.qRt, Py.q0, Py.qAp, Py.mkF, Py.sbI, Py.ixD, Py.cpI, Py.asB, Py.truD, Py.tN, Py.tA, Py.tO, Py.vA, Py.vO, Py.vN, Py.cI, Py.iB, Py.ia0, Py.ia1, Py.iaM, Py.imD, Py.ngI, Py.liD, Py.tuD, Py.intD, Py.maxD, Py.minD, Py.sq, Py.flt, Py.ch, Py.itD, Py.itA, Py.asS, Option.bind_some, Option.bind_none, Option.map_some, Option.map_none, List.map_cons, List.map_nil, List.cons_append, List.nil_append, List.length_cons, List.length_nil, List.replicate, Int.reduceLT, Int.reduceLE, Int.reduceGT, Int.reduceGE, Int.reduceEq, Int.reduceNe, Int.reduceAdd, Int.reduceSub, Int.reduceMul, Int.reduceNeg, Int.reduceMod, Int.reduceDiv, Nat.reduceAdd, Nat.reduceLT, decide_true, decide_false, if_true, if_false, reduceIte, and_self, and_true, true_and, or_true, true_or, or_false, false_or, not_true_eq_false, not_false_eq_true, Bool.not_true, Bool.not_false, Bool.false_eq_true, Py.cD, List.append_nil, wk, at2, eq_self, ap]
          · rw [tk, List.filter_append, List.map_append]
            simp
        · have e : ¬ ((j : Nat) : Int) = (t : Int) := by omega
          refine ⟨_, put7, [some (.lst R), some (.lst N), some P, some (.tup [.str "way", .int (k : Int), .int (t : Int)]), some (.lst (rgX R.length)), some (.int (k : Int)), some (.lst (((ws.take i).filter (fun i => decide (i = t))).map fun (i : Nat) => D.tup [.str "way", .int (k : Int), .int (i : Int)])), some (.int (j : Int))], .inl ?_, some (.int (j : Int)), ?_⟩
          · generalize ((ws.take i).filter (fun i => decide (i = t))).map (fun (i : Nat) => D.tup [.str "way", .int (k : Int), .int (i : Int)]) = A at *
            generalize rgX R.length = LL at *
            simp only [l0_places_led, eqD_i, neD_i, adD_i, vr0, vr1, vr2, vr3, vr4, vr5, vr6, vr7, vr8, vr9, vr10, vr11, vr12, vr13, vr14, vr15, vr16, vr17, vr18, vr19, vr20, vr21, vr22, vr23, put0, put1, put2, put3, put4, put5, put6, put7, put8, put9, put10, put11, put12, put13, put14, put15, put16, put17, put18, put19, put20, put21, put22, put23, onL0, onL1, onL2, onL3, onL4, onL5, onL6, onL7, onL8, onL9, onL10, onL11, onL12, onL13, onL14, onL15, onL16, onL17, onL18, onL19, onL20, onL21, onL22, onL23, isL0, isL1, isL2, isL3, isL4, isL5, isL6, isL7, isL8, isL9, isL10, isL11, isL12, isL13, isL14, isL15, isL16, isL17, isL18, isL19, isL20, isL21, isL22, isL23, mv0, mv1, mv2, mv3, mv4, mv5, mv6, mv7, mv8, mv9, mv10, mv11, mv12, mv13, mv14, mv15, mv16, mv17, mv18, mv19, mv20, mv21, mv22, mv23, oC0, oC1, oC2, oC3, oC4, oC5, oC6, oC7, ls0, ls1, ls2, ls3, ls4, ls5, ls6, ls7, ls8, ls9, ls10, ls11, ls12, tp0, tp1, tp2, tp3, tp4, tp5, tp6, tp7, tp8, tp9, tp10, tp11, tp12, Py.c0, Py.b1, Py.b2, Py.b3, Py.bA, Py.a0, Py.a1, Py.tb, Py.p2i, Py.qDo, Py.q1, Py.qIf, Py.qRt, Py.q0, Py.qAp, Py.mkF, Py.sbI, Py.ixD, Py.cpI, Py.asB, Py.truD, Py.tN, Py.tA, Py.tO, Py.vA, Py.vO, Py.vN, Py.cI, Py.iB, Py.ia0, Py.ia1, Py.iaM, Py.imD, Py.ngI, Py.liD, Py.tuD, Py.intD, Py.maxD, Py.minD, Py.sq, Py.flt, Py.ch, Py.itD, Py.itA, Py.asS, Option.bind_some, Option.bind_none, Option.map_some, Option.map_none, List.map_cons, List.map_nil, List.cons_append, List.nil_append, List.length_cons, List.length_nil, List.replicate, Int.reduceLT, Int.reduceLE, Int.reduceGT, Int.reduceGE, Int.reduceEq, Int.reduceNe, Int.reduceAdd, Int.reduceSub, Int.reduceMul, Int.reduceNeg, Int.reduceMod, Int.reduceDiv, Nat.reduceAdd, Nat.reduceLT, decide_true, decide_false, if_true, if_false, reduceIte, and_self, and_true, true_and, or_true, true_or, or_false, false_or, not_true_eq_false, not_false_eq_true, Bool.not_true, Bool.not_false, Bool.false_eq_true, Py.cD, List.append_nil, wk, at2, e]
          · rw [tk, List.filter_append]
            simp [q]) ⟨none, rfl⟩
    rw [Nat.zero_add, List.length_map, List.take_length, hf] at f1
    rw [hw]
    generalize rgX R.length = LL at *
    simp only [List.map_cons, List.map_nil] at f1
    simp only [f_places_led, b_places_led, eqD_i, neD_i, adD_i, vr0, vr1, vr2, vr3, vr4, vr5, vr6, vr7, vr8, vr9, vr10, vr11, vr12, vr13, vr14, vr15, vr16, vr17, vr18, vr19, vr20, vr21, vr22, vr23, put0, put1, put2, put3, put4, put5, put6, put7, put8, put9, put10, put11, put12, put13, put14, put15, put16, put17, put18, put19, put20, put21, put22, put23, onL0, onL1, onL2, onL3, onL4, onL5, onL6, onL7, onL8, onL9, onL10, onL11, onL12, onL13, onL14, onL15, onL16, onL17, onL18, onL19, onL20, onL21, onL22, onL23, isL0, isL1, isL2, isL3, isL4, isL5, isL6, isL7, isL8, isL9, isL10, isL11, isL12, isL13, isL14, isL15, isL16, isL17, isL18, isL19, isL20, isL21, isL22, isL23, mv0, mv1, mv2, mv3, mv4, mv5, mv6, mv7, mv8, mv9, mv10, mv11, mv12, mv13, mv14, mv15, mv16, mv17, mv18, mv19, mv20, mv21, mv22, mv23, oC0, oC1, oC2, oC3, oC4, oC5, oC6, oC7, ls0, ls1, ls2, ls3, ls4, ls5, ls6, ls7, ls8, ls9, ls10, ls11, ls12, tp0, tp1, tp2, tp3, tp4, tp5, tp6, tp7, tp8, tp9, tp10, tp11, tp12, Py.c0, Py.b1, Py.b2, Py.b3, Py.bA, Py.a0, Py.a1, Py.tb, Py.p2i, Py.qDo, Py.q1, Py.qIf, Py.qRt, Py.q0, Py.qAp, Py.mkF, Py.sbI, Py.ixD, Py.cpI, Py.asB, Py.truD, Py.tN, Py.tA, Py.tO, Py.vA, Py.vO, Py.vN, Py.cI, Py.iB, Py.ia0, Py.ia1, Py.iaM, Py.imD, Py.ngI, Py.liD, Py.tuD, Py.intD, Py.maxD, Py.minD, Py.sq, Py.flt, Py.ch, Py.itD, Py.itA, Py.asS, Option.bind_some, Option.bind_none, Option.map_some, Option.map_none, List.map_cons, List.map_nil, List.cons_append, List.nil_append, List.length_cons, List.length_nil, List.replicate, Int.reduceLT, Int.reduceLE, Int.reduceGT, Int.reduceGE, Int.reduceEq, Int.reduceNe, Int.reduceAdd, Int.reduceSub, Int.reduceMul, Int.reduceNeg, Int.reduceMod, Int.reduceDiv, Nat.reduceAdd, Nat.reduceLT, decide_true, decide_false, if_true, if_false, reduceIte, and_self, and_true, true_and, or_true, true_or, or_false, false_or, not_true_eq_false, not_false_eq_true, Bool.not_true, Bool.not_false, Bool.false_eq_true, Py.iaC, Py.cD, List.append_nil, wo, hl, sd, at0, at1, dx, h1, hy, Py.qFor, Py.itD, Py.asS, f1]
end K73

set_option Elab.async false
set_option linter.all false
set_option maxRecDepth 100000
set_option maxHeartbeats 16000000
namespace K73
open PySem PySem.Spec PyProof.Rows L2 Py
theorem place_b {R : List D} (h : 0 < R.length) : f_is_place [.lst R, .tup [.str "before", .int 0]] = some (.rt (.bl true), []) := by
  have i : isD "tuple" (.tup [.str "before", .int 0]) = some (.bl true) := rfl
  have lt : lenD [.tup [.str "before", .int 0]] = some (.int 2) := rfl
  have fr := is_from 0 0 ((R.length : Int) - 1)
  rw [decide_eq_true (by omega)] at fr
  have e : eqD (.str "before") (.str "before") = some (.bl true) := by kernel_rfl
  have at0 : atI [D.str "before", .int 0] 0 = some (.str "before") := rfl
  have at1 : atI [D.str "before", .int 0] 1 = some (.int 0) := rfl
  simp only [f_is_place, b_is_place, eqD_i, neD_i, adD_i, vr0, vr1, vr2, vr3, vr4, vr5, vr6, vr7, vr8, vr9, vr10, vr11, vr12, vr13, vr14, vr15, vr16, vr17, vr18, vr19, vr20, vr21, vr22, vr23, put0, put1, put2, put3, put4, put5, put6, put7, put8, put9, put10, put11, put12, put13, put14, put15, put16, put17, put18, put19, put20, put21, put22, put23, onL0, onL1, onL2, onL3, onL4, onL5, onL6, onL7, onL8, onL9, onL10, onL11, onL12, onL13, onL14, onL15, onL16, onL17, onL18, onL19, onL20, onL21, onL22, onL23, isL0, isL1, isL2, isL3, isL4, isL5, isL6, isL7, isL8, isL9, isL10, isL11, isL12, isL13, isL14, isL15, isL16, isL17, isL18, isL19, isL20, isL21, isL22, isL23, mv0, mv1, mv2, mv3, mv4, mv5, mv6, mv7, mv8, mv9, mv10, mv11, mv12, mv13, mv14, mv15, mv16, mv17, mv18, mv19, mv20, mv21, mv22, mv23, oC0, oC1, oC2, oC3, oC4, oC5, oC6, oC7, ls0, ls1, ls2, ls3, ls4, ls5, ls6, ls7, ls8, ls9, ls10, ls11, ls12, tp0, tp1, tp2, tp3, tp4, tp5, tp6, tp7, tp8, tp9, tp10, tp11, tp12, Py.c0, Py.b1, Py.b2, Py.b3, Py.bA, Py.a0, Py.a1, Py.tb, Py.p2i, Py.qDo, Py.q1, Py.qIf, Py.qRt, Py.q0, Py.qAp, Py.mkF, Py.sbI, Py.ixD, Py.cpI, Py.asB, Py.truD, Py.tN, Py.tA, Py.tO, Py.vA, Py.vO, Py.vN, Py.cI, Py.iB, Py.ia0, Py.ia1, Py.iaM, Py.imD, Py.ngI, Py.liD, Py.tuD, Py.intD, Py.maxD, Py.minD, Py.sq, Py.flt, Py.ch, Py.itD, Py.itA, Py.asS, Option.bind_some, Option.bind_none, Option.map_some, Option.map_none, List.map_cons, List.map_nil, List.cons_append, List.nil_append, List.length_cons, List.length_nil, List.replicate, Int.reduceLT, Int.reduceLE, Int.reduceGT, Int.reduceGE, Int.reduceEq, Int.reduceNe, Int.reduceAdd, Int.reduceSub, Int.reduceMul, Int.reduceNeg, Int.reduceMod, Int.reduceDiv, Nat.reduceAdd, Nat.reduceLT, decide_true, decide_false, if_true, if_false, reduceIte, and_self, and_true, true_and, or_true, true_or, or_false, false_or, not_true_eq_false, not_false_eq_true, Bool.not_true, Bool.not_false, Bool.false_eq_true, Py.cD, List.append_nil, i, lt, len_l, fr, e, at0, at1]
theorem place_a {R : List D} {k : Nat} (h : k < R.length) {z : D} {zs : List D} (hw : f_ways_of [.lst R, .int (k : Int)] = some (.rt (.lst (z :: zs)), [])) (hz : neD (.lst (z :: zs)) (.lst []) = some (.bl true)) : f_is_place [.lst R, .tup [.str "after", .int (k : Int)]] = some (.rt (.bl true), []) := by
  have i : isD "tuple" (.tup [.str "after", .int (k : Int)]) = some (.bl true) := rfl
  have lt : lenD [.tup [.str "after", .int (k : Int)]] = some (.int 2) := rfl
  have fr := is_from k 0 ((R.length : Int) - 1)
  rw [decide_eq_true (by omega)] at fr
  have e : eqD (.str "after") (.str "before") = some (.bl false) := by kernel_rfl
  have e2 : eqD (.str "after") (.str "after") = some (.bl true) := by kernel_rfl
  have at0 : atI [D.str "after", .int (k : Int)] 0 = some (.str "after") := rfl
  have at1 : atI [D.str "after", .int (k : Int)] 1 = some (.int (k : Int)) := rfl
  simp only [f_is_place, b_is_place, eqD_i, neD_i, adD_i, vr0, vr1, vr2, vr3, vr4, vr5, vr6, vr7, vr8, vr9, vr10, vr11, vr12, vr13, vr14, vr15, vr16, vr17, vr18, vr19, vr20, vr21, vr22, vr23, put0, put1, put2, put3, put4, put5, put6, put7, put8, put9, put10, put11, put12, put13, put14, put15, put16, put17, put18, put19, put20, put21, put22, put23, onL0, onL1, onL2, onL3, onL4, onL5, onL6, onL7, onL8, onL9, onL10, onL11, onL12, onL13, onL14, onL15, onL16, onL17, onL18, onL19, onL20, onL21, onL22, onL23, isL0, isL1, isL2, isL3, isL4, isL5, isL6, isL7, isL8, isL9, isL10, isL11, isL12, isL13, isL14, isL15, isL16, isL17, isL18, isL19, isL20, isL21, isL22, isL23, mv0, mv1, mv2, mv3, mv4, mv5, mv6, mv7, mv8, mv9, mv10, mv11, mv12, mv13, mv14, mv15, mv16, mv17, mv18, mv19, mv20, mv21, mv22, mv23, oC0, oC1, oC2, oC3, oC4, oC5, oC6, oC7, ls0, ls1, ls2, ls3, ls4, ls5, ls6, ls7, ls8, ls9, ls10, ls11, ls12, tp0, tp1, tp2, tp3, tp4, tp5, tp6, tp7, tp8, tp9, tp10, tp11, tp12, Py.c0, Py.b1, Py.b2, Py.b3, Py.bA, Py.a0, Py.a1, Py.tb, Py.p2i, Py.qDo, Py.q1, Py.qIf, Py.qRt, Py.q0, Py.qAp, Py.mkF, Py.sbI, Py.ixD, Py.cpI, Py.asB, Py.truD, Py.tN, Py.tA, Py.tO, Py.vA, Py.vO, Py.vN, Py.cI, Py.iB, Py.ia0, Py.ia1, Py.iaM, Py.imD, Py.ngI, Py.liD, Py.tuD, Py.intD, Py.maxD, Py.minD, Py.sq, Py.flt, Py.ch, Py.itD, Py.itA, Py.asS, Option.bind_some, Option.bind_none, Option.map_some, Option.map_none, List.map_cons, List.map_nil, List.cons_append, List.nil_append, List.length_cons, List.length_nil, List.replicate, Int.reduceLT, Int.reduceLE, Int.reduceGT, Int.reduceGE, Int.reduceEq, Int.reduceNe, Int.reduceAdd, Int.reduceSub, Int.reduceMul, Int.reduceNeg, Int.reduceMod, Int.reduceDiv, Nat.reduceAdd, Nat.reduceLT, decide_true, decide_false, if_true, if_false, reduceIte, and_self, and_true, true_and, or_true, true_or, or_false, false_or, not_true_eq_false, not_false_eq_true, Bool.not_true, Bool.not_false, Bool.false_eq_true, Py.cD, List.append_nil, i, lt, len_l, fr, e, e2, at0, at1, hw, hz]
theorem place_w {R : List D} {k t : Nat} (h : k < R.length) (ht : t < R.length) {ws : List Int} (hw : f_ways_of [.lst R, .int (k : Int)] = some (.rt (.lst (ws.map .int)), [])) (hz : (t : Int) ∈ ws) : f_is_place [.lst R, .tup [.str "way", .int (k : Int), .int (t : Int)]] = some (.rt (.bl true), []) := by
  have i : isD "tuple" (.tup [.str "way", .int (k : Int), .int (t : Int)]) = some (.bl true) := rfl
  have lt : lenD [.tup [.str "way", .int (k : Int), .int (t : Int)]] = some (.int 3) := rfl
  have fr := is_from k 0 ((R.length : Int) - 1)
  rw [decide_eq_true (by omega)] at fr
  have ft := is_from t 0 ((R.length : Int) - 1)
  rw [decide_eq_true (by omega)] at ft
  have e : eqD (.str "way") (.str "before") = some (.bl false) := by kernel_rfl
  have e2 : eqD (.str "way") (.str "after") = some (.bl false) := by kernel_rfl
  have e3 : eqD (.str "way") (.str "way") = some (.bl true) := by kernel_rfl
  have at0 : atI [D.str "way", .int (k : Int), .int (t : Int)] 0 = some (.str "way") := rfl
  have at1 : atI [D.str "way", .int (k : Int), .int (t : Int)] 1 = some (.int (k : Int)) := rfl
  have at2 : atI [D.str "way", .int (k : Int), .int (t : Int)] 2 = some (.int (t : Int)) := rfl
  have ii := inD_ints false (t : Int) ws
  rw [decide_eq_true hz] at ii
  generalize ws.map D.int = WW at *
  simp only [f_is_place, b_is_place, eqD_i, neD_i, adD_i, vr0, vr1, vr2, vr3, vr4, vr5, vr6, vr7, vr8, vr9, vr10, vr11, vr12, vr13, vr14, vr15, vr16, vr17, vr18, vr19, vr20, vr21, vr22, vr23, put0, put1, put2, put3, put4, put5, put6, put7, put8, put9, put10, put11, put12, put13, put14, put15, put16, put17, put18, put19, put20, put21, put22, put23, onL0, onL1, onL2, onL3, onL4, onL5, onL6, onL7, onL8, onL9, onL10, onL11, onL12, onL13, onL14, onL15, onL16, onL17, onL18, onL19, onL20, onL21, onL22, onL23, isL0, isL1, isL2, isL3, isL4, isL5, isL6, isL7, isL8, isL9, isL10, isL11, isL12, isL13, isL14, isL15, isL16, isL17, isL18, isL19, isL20, isL21, isL22, isL23, mv0, mv1, mv2, mv3, mv4, mv5, mv6, mv7, mv8, mv9, mv10, mv11, mv12, mv13, mv14, mv15, mv16, mv17, mv18, mv19, mv20, mv21, mv22, mv23, oC0, oC1, oC2, oC3, oC4, oC5, oC6, oC7, ls0, ls1, ls2, ls3, ls4, ls5, ls6, ls7, ls8, ls9, ls10, ls11, ls12, tp0, tp1, tp2, tp3, tp4, tp5, tp6, tp7, tp8, tp9, tp10, tp11, tp12, Py.c0, Py.b1, Py.b2, Py.b3, Py.bA, Py.a0, Py.a1, Py.tb, Py.p2i, Py.qDo, Py.q1, Py.qIf, Py.qRt, Py.q0, Py.qAp, Py.mkF, Py.sbI, Py.ixD, Py.cpI, Py.asB, Py.truD, Py.tN, Py.tA, Py.tO, Py.vA, Py.vO, Py.vN, Py.cI, Py.iB, Py.ia0, Py.ia1, Py.iaM, Py.imD, Py.ngI, Py.liD, Py.tuD, Py.intD, Py.maxD, Py.minD, Py.sq, Py.flt, Py.ch, Py.itD, Py.itA, Py.asS, Option.bind_some, Option.bind_none, Option.map_some, Option.map_none, List.map_cons, List.map_nil, List.cons_append, List.nil_append, List.length_cons, List.length_nil, List.replicate, Int.reduceLT, Int.reduceLE, Int.reduceGT, Int.reduceGE, Int.reduceEq, Int.reduceNe, Int.reduceAdd, Int.reduceSub, Int.reduceMul, Int.reduceNeg, Int.reduceMod, Int.reduceDiv, Nat.reduceAdd, Nat.reduceLT, decide_true, decide_false, if_true, if_false, reduceIte, and_self, and_true, true_and, or_true, true_or, or_false, false_or, not_true_eq_false, not_false_eq_true, Bool.not_true, Bool.not_false, Bool.false_eq_true, Py.cD, List.append_nil, i, lt, len_l, fr, ft, e, e2, e3, at0, at1, at2, hw, ii, Bool.false_xor]
theorem rngL0 (n : Nat) : rngL 0 n = rgX n := by
  unfold rngL rgX
  refine List.map_congr_left fun i _ => ?_
  rw [Int.zero_add]
theorem pure : ∀ ns : List Int, ns.length ≤ 63 → f_law [.lst (ns.map .int)] = some (.rt (.bl true), []) := by
  intro ns hn
  obtain ⟨R, hR, hp⟩ := program ns hn
  have lo := hp.lo
  have hi := hp.hi
  obtain ⟨c1', hc1⟩ := cell_at ns 1 (by decide)
  obtain ⟨c2', hc2⟩ := cell_at ns 2 (by decide)
  -- the rows turned about
  obtain ⟨N, n1, n2, n3⟩ := lcL_rel (as := Py.put 10) (fe := bA (Py.a1 (vr 10) a0) (cD f__law_turned [])) (env := [some (.lst (ns.map .int)), some (.lst R), none, none, none, none, none, none, none, none, none]) (R := fun d y => ∀ w, Rw false w d → Rw true w y) R (fun d hd => by
    obtain ⟨w, hw⟩ := hp.rw_ d hd
    obtain ⟨d', h1, h2⟩ := hw.turn
    refine ⟨_, d', put10, ?_, fun w' hw' => ?_⟩
    · simp only [eqD_i, neD_i, adD_i, vr0, vr1, vr2, vr3, vr4, vr5, vr6, vr7, vr8, vr9, vr10, vr11, vr12, vr13, vr14, vr15, vr16, vr17, vr18, vr19, vr20, vr21, vr22, vr23, put0, put1, put2, put3, put4, put5, put6, put7, put8, put9, put10, put11, put12, put13, put14, put15, put16, put17, put18, put19, put20, put21, put22, put23, onL0, onL1, onL2, onL3, onL4, onL5, onL6, onL7, onL8, onL9, onL10, onL11, onL12, onL13, onL14, onL15, onL16, onL17, onL18, onL19, onL20, onL21, onL22, onL23, isL0, isL1, isL2, isL3, isL4, isL5, isL6, isL7, isL8, isL9, isL10, isL11, isL12, isL13, isL14, isL15, isL16, isL17, isL18, isL19, isL20, isL21, isL22, isL23, mv0, mv1, mv2, mv3, mv4, mv5, mv6, mv7, mv8, mv9, mv10, mv11, mv12, mv13, mv14, mv15, mv16, mv17, mv18, mv19, mv20, mv21, mv22, mv23, oC0, oC1, oC2, oC3, oC4, oC5, oC6, oC7, ls0, ls1, ls2, ls3, ls4, ls5, ls6, ls7, ls8, ls9, ls10, ls11, ls12, tp0, tp1, tp2, tp3, tp4, tp5, tp6, tp7, tp8, tp9, tp10, tp11, tp12, Py.c0, Py.b1, Py.b2, Py.b3, Py.bA, Py.a0, Py.a1, Py.tb, Py.p2i, Py.qDo, Py.q1, Py.qIf, Py.qRt, Py.q0, Py.qAp, Py.mkF, Py.sbI, Py.ixD, Py.cpI, Py.asB, Py.truD, Py.tN, Py.tA, Py.tO, Py.vA, Py.vO, Py.vN, Py.cI, Py.iB, Py.ia0, Py.ia1, Py.iaM, Py.imD, Py.ngI, Py.liD, Py.tuD, Py.intD, Py.maxD, Py.minD, Py.sq, Py.flt, Py.ch, Py.itD, Py.itA, Py.asS, Option.bind_some, Option.bind_none, Option.map_some, Option.map_none, List.map_cons, List.map_nil, List.cons_append, List.nil_append, List.length_cons, List.length_nil, List.replicate, Py.cD, List.append_nil, h1]
    · rw [← hw'.word, hw.word]; exact h2)
  have nz := ls_len (xs := N) (by omega)
  obtain ⟨F, f1, f2, f3⟩ := lcL_rel (as := Py.put 10) (fe := bA (Py.a1 (b2 (b2 (vr 10) (c0 (.int 0)) ixD) (c0 (.str "zero")) eqD) a0) intD) (env := [some (.lst (ns.map .int)), some (.lst R), some (.lst N), some (.lst (rgX R.length)), none, none, none, none, none, none, none]) (R := fun _ y => ∃ i : Int, y = .int i) R (fun d hd => by
    obtain ⟨w, hw⟩ := hp.rw_ d hd
    obtain ⟨rest, hr⟩ := hw.tup
    have at0 : atI (D.str w :: rest) 0 = some (.str w) := at_nat (xs := D.str w :: rest) (i := 0) (by simp)
    have e := hw.eqw (w := "zero") (.inr (.inr (.inr rfl)))
    have iB : ∀ b : Bool, intD [.bl b] = some (.int (if b then 1 else 0)) := fun b => by cases b <;> rfl
    refine ⟨_, .int (if decide (w = "zero") then 1 else 0), put10, ?_, _, rfl⟩
    rw [hr]
    simp only [neD_i, adD_i, vr0, vr1, vr2, vr3, vr4, vr5, vr6, vr7, vr8, vr9, vr10, vr11, vr12, vr13, vr14, vr15, vr16, vr17, vr18, vr19, vr20, vr21, vr22, vr23, put0, put1, put2, put3, put4, put5, put6, put7, put8, put9, put10, put11, put12, put13, put14, put15, put16, put17, put18, put19, put20, put21, put22, put23, onL0, onL1, onL2, onL3, onL4, onL5, onL6, onL7, onL8, onL9, onL10, onL11, onL12, onL13, onL14, onL15, onL16, onL17, onL18, onL19, onL20, onL21, onL22, onL23, isL0, isL1, isL2, isL3, isL4, isL5, isL6, isL7, isL8, isL9, isL10, isL11, isL12, isL13, isL14, isL15, isL16, isL17, isL18, isL19, isL20, isL21, isL22, isL23, mv0, mv1, mv2, mv3, mv4, mv5, mv6, mv7, mv8, mv9, mv10, mv11, mv12, mv13, mv14, mv15, mv16, mv17, mv18, mv19, mv20, mv21, mv22, mv23, oC0, oC1, oC2, oC3, oC4, oC5, oC6, oC7, ls0, ls1, ls2, ls3, ls4, ls5, ls6, ls7, ls8, ls9, ls10, ls11, ls12, tp0, tp1, tp2, tp3, tp4, tp5, tp6, tp7, tp8, tp9, tp10, tp11, tp12, Py.c0, Py.b1, Py.b2, Py.b3, Py.bA, Py.a0, Py.a1, Py.tb, Py.p2i, Py.qDo, Py.q1, Py.qIf, Py.qRt, Py.q0, Py.qAp, Py.mkF, Py.sbI, Py.ixD, Py.asB, Py.truD, Py.tN, Py.tA, Py.tO, Py.vA, Py.vO, Py.vN, Py.cI, Py.iB, Py.ia0, Py.ia1, Py.iaM, Py.imD, Py.ngI, Py.liD, Py.tuD, Py.maxD, Py.minD, Py.sq, Py.flt, Py.ch, Py.itD, Py.itA, Py.asS, Option.bind_some, Option.bind_none, Option.map_some, Option.map_none, List.map_cons, List.map_nil, List.cons_append, List.nil_append, List.length_cons, List.length_nil, List.replicate, at0, e, iB])
  have fz := ls_len (xs := F) (by omega)
  have lr : lr1 [.int (R.length : Int)] = some (.lst (rgX R.length)) := by
    show (if _ then _ else _) = _
    rw [if_pos (by omega), Int.toNat_natCast, rngL0]
  have re : reL (.lst [.tup []]) (.int (R.length : Int)) = some (.lst (List.replicate R.length [D.tup []]).flatten) := by
    show (if (R.length : Int).natAbs < 9223372036854775808 ∧ [D.tup []].length * (R.length : Int).toNat ≤ sizeLine then some (D.lst (List.replicate (R.length : Int).toNat [D.tup []]).flatten) else none) = _
    rw [Int.toNat_natCast, if_pos ⟨by omega, by rw [sizeLine_eq]; simp; omega⟩]
  obtain ⟨nd, hnd, hnp⟩ := none_ hp c1'
  have rf := refused hnp (.lst N) (.dic ((["leads", "forms", "free", "counts"] : List Str).map .inr) [.lst (rgX R.length), .lst F, .lst (List.replicate R.length [D.tup []]).flatten, .lst []])
  obtain ⟨ze, dz, z1, z2, z3⟩ := number hp (w := "zero") (.inr (.inr (.inr rfl))) hp.zero
  have zl := (List.getElem?_eq_some_iff.mp z2).1
  have zl2 : ze + 1 < R.length := by
    obtain ⟨init, l, w, e1, e2, e3, e4⟩ := hp.end_
    refine Nat.lt_of_le_of_ne zl fun q => ?_
    have q2 : ze = init.length := by
      have := congrArg List.length e1
      rw [List.length_append, List.length_singleton] at this
      omega
    rw [e1, q2] at z2
    simp at z2
    subst z2
    have := e2.word
    rw [z3.word] at this
    exact e4 this.symm
  have wR := ways z2 z3
  obtain ⟨dz', hz1, hz2⟩ : ∃ d, N[ze]? = some d ∧ Rw true "zero" d := ⟨N[ze]'(by omega), List.getElem?_eq_getElem (by omega), n3 ze dz _ z2 (List.getElem?_eq_getElem (by omega)) "zero" z3⟩
  have wN := ways hz1 hz2
  have e4 := md 4 (by decide) c2'
  have hl : ∀ a b c : D, dixD (.dic ((["leads", "forms", "free", "counts"] : List Str).map .inr) [a, b, c, .lst []]) (.str "leads") = some a := fun a b c => by kernel_rfl
  have hl2 : ∀ a b c : D, dixD (.dic ((["leads", "forms", "free", "counts"] : List Str).map .inr) [a, b, c, .lst []]) (.str "forms") = some b := fun a b c => by kernel_rfl
  have led : ∃ d : D, atI [D.tup [.str "before", .int 0], .tup [.str "after", .int (ze : Int)], .tup [.str "way", .int (ze : Int), .int 1], .tup [.str "way", .int (ze : Int), .int ((ze : Int) + 1)]] (c2' % 4) = some d ∧ d.ok 59 = true ∧ f_places_led [.lst R, .lst N, .dic ((["leads", "forms", "free", "counts"] : List Str).map .inr) [.lst (rgX R.length), .lst F, .lst (List.replicate R.length [D.tup []]).flatten, .lst []], d] = some (.rt (.lst [d]), []) := by
    have h : c2' % 4 = 0 ∨ c2' % 4 = 1 ∨ c2' % 4 = 2 ∨ c2' % 4 = 3 := by omega
    have nw1 : neD (.str "before") (.str "way") = some (.bl true) := by kernel_rfl
    have nw2 : neD (.str "after") (.str "way") = some (.bl true) := by kernel_rfl
    have nw3 : neD (.str "way") (.str "way") = some (.bl false) := by kernel_rfl
    obtain ⟨ws, hws, hlt, hf1, hf2, hne⟩ : ∃ ws : List Nat, wys "zero" ze = ws.map (fun (i : Nat) => (i : Int)) ∧ (∀ i ∈ ws, i < R.length) ∧ ws.filter (fun i => decide (i = 1)) = [1] ∧ ws.filter (fun i => decide (i = ze + 1)) = [ze + 1] ∧ ws ≠ [] := by
      by_cases q : ze = 0
      · subst q
        exact ⟨[1], rfl, fun i hi => by rw [List.mem_singleton.mp hi]; omega, rfl, rfl, by simp⟩
      · refine ⟨[1, ze + 1], ?_, fun i hi => ?_, ?_, ?_, by simp⟩
        · show (if ze = 0 then _ else _) = _
          rw [if_neg q]
          rfl
        · rcases List.mem_cons.mp hi with rfl | hi
          · omega
          · rw [List.mem_singleton.mp hi]; omega
        · have q2 : ¬ ze + 1 = 1 := by omega
          simp [q]
        · have q2 : ¬ 1 = ze + 1 := by omega
          rw [List.filter_cons_of_neg (by rw [decide_eq_true_eq]; exact q2), List.filter_cons_of_pos (by rw [decide_eq_true_eq])]
          rfl
    have wNn : f_ways_of [.lst N, .int (ze : Int)] = some (.rt (.lst (ws.map fun (i : Nat) => D.int (i : Int))), []) := by
      rw [wN, hws, List.map_map]
      rfl
    rcases h with h | h | h | h <;> rw [h]
    · exact ⟨_, rfl, by kernel_rfl, led_same (k := 0) rfl (by omega) (by omega) (place_b (by omega)) (hl _ _ _) (.inl ⟨nw1, rfl⟩) (fun z => absurd rfl z)⟩
    · refine ⟨_, rfl, by kernel_rfl, led_same (k := ze) rfl (by omega) zl ?_ (hl _ _ _) (.inl ⟨nw2, rfl⟩) (fun z => absurd rfl z)⟩
      obtain ⟨x, xs, hx⟩ : ∃ x xs, ws = x :: xs := by
        cases ws with
        | nil => exact absurd rfl hne
        | cons x xs => exact ⟨x, xs, rfl⟩
      rw [hws, hx] at wR
      simp only [List.map_cons] at wR
      refine place_a zl wR ?_
      have o : D.oks 59 ((xs.map fun (i : Nat) => (i : Int)).map D.int) = true := oks_ints
      show (if ((D.int (x : Int)).ok 59 && D.oks 59 ((xs.map fun (i : Nat) => (i : Int)).map D.int) && (D.lst []).ok 60) = true then _ else _) = _
      rw [o, if_pos (by rfl)]
      rfl
    · refine ⟨_, rfl, by kernel_rfl, led_same (k := ze) rfl (by omega) zl ?_ (hl _ _ _) (.inr ⟨nw3, 1, ws, rfl, wNn, hlt, hf1⟩) (fun _ => rfl)⟩
      refine place_w (t := 1) zl (by omega) wR ?_
      rw [hws]
      have : 1 ∈ ws.filter (fun i => decide (i = 1)) := by rw [hf1]; simp
      exact List.mem_map.mpr ⟨1, (List.mem_filter.mp this).1, rfl⟩
    · refine ⟨_, rfl, by kernel_rfl, led_same (k := ze) rfl (by omega) zl ?_ (hl _ _ _) (.inr ⟨nw3, ze + 1, ws, rfl, wNn, hlt, hf2⟩) (fun _ => rfl)⟩
      refine place_w (t := ze + 1) zl (by omega) wR ?_
      rw [hws]
      have : ze + 1 ∈ ws.filter (fun i => decide (i = ze + 1)) := by rw [hf2]; simp
      exact List.mem_map.mpr ⟨ze + 1, (List.mem_filter.mp this).1, rfl⟩
  obtain ⟨rd, r1, r2, r3⟩ := led
  have ok1 : D.oks 58 R = true := oks_all fun d hd => by
    obtain ⟨w, hw⟩ := hp.rw_ d hd
    cases hw <;> kernel_rfl
  have ok2 : D.oks 58 N = true := oks_all fun d hd => by
    obtain ⟨i, hi⟩ := List.mem_iff_getElem?.mp hd
    have hi2 := (List.getElem?_eq_some_iff.mp hi).1
    obtain ⟨w, hw⟩ := hp.rw_ _ (List.getElem_mem (show i < R.length by omega))
    have := n3 i _ d (List.getElem?_eq_getElem (by omega)) hi w hw
    cases this <;> kernel_rfl
  have ok3 : D.oks 58 (rgX R.length) = true := oks_all fun d hd => by
    obtain ⟨i, _, rfl⟩ := List.mem_map.mp hd
    rfl
  have ok4 : D.oks 58 F = true := oks_all fun d hd => by
    obtain ⟨i, hi⟩ := List.mem_iff_getElem?.mp hd
    have hi2 := (List.getElem?_eq_some_iff.mp hi).1
    obtain ⟨j, rfl⟩ := f3 i _ d (List.getElem?_eq_getElem (by omega)) hi
    rfl
  have nr : neD (.lst [rd]) (.lst [rd]) = some (.bl false) := neD_self (by
    show (rd.ok 59 && true) = true
    rw [r2]
    rfl)
  generalize rgX R.length = LL at *
  generalize (List.replicate R.length [D.tup []]).flatten = RR at *
  have fin : eqD (.lst [.lst R, .lst N, .lst LL, .lst F]) (.lst [.lst R, .lst N, .lst LL, .lst F]) = some (.bl true) := eqD_self (by
    show (D.oks 58 R && (D.oks 58 N && (D.oks 58 LL && (D.oks 58 F && true)))) = true
    rw [ok1, ok2, ok3, ok4]
    rfl)
  have ds : ∀ fs : En → Option (List D), dspF ["leads", "forms", "free", "counts"] fs = fun env => (fs env).map fun ds => .dic ((["leads", "forms", "free", "counts"] : List Str).map .inr) ds := fun _ => rfl
  generalize ((["leads", "forms", "free", "counts"] : List Str).map .inr : List Key) = KK at *
  simp only [f_law, b_law, eqD_i, neD_i, adD_i, vr0, vr1, vr2, vr3, vr4, vr5, vr6, vr7, vr8, vr9, vr10, vr11, vr12, vr13, vr14, vr15, vr16, vr17, vr18, vr19, vr20, vr21, vr22, vr23, put0, put1, put2, put3, put4, put5, put6, put7, put8, put9, put10, put11, put12, put13, put14, put15, put16, put17, put18, put19, put20, put21, put22, put23, onL0, onL1, onL2, onL3, onL4, onL5, onL6, onL7, onL8, onL9, onL10, onL11, onL12, onL13, onL14, onL15, onL16, onL17, onL18, onL19, onL20, onL21, onL22, onL23, isL0, isL1, isL2, isL3, isL4, isL5, isL6, isL7, isL8, isL9, isL10, isL11, isL12, isL13, isL14, isL15, isL16, isL17, isL18, isL19, isL20, isL21, isL22, isL23, mv0, mv1, mv2, mv3, mv4, mv5, mv6, mv7, mv8, mv9, mv10, mv11, mv12, mv13, mv14, mv15, mv16, mv17, mv18, mv19, mv20, mv21, mv22, mv23, oC0, oC1, oC2, oC3, oC4, oC5, oC6, oC7, ls0, ls1, ls2, ls3, ls4, ls5, ls6, ls7, ls8, ls9, ls10, ls11, ls12, tp0, tp1, tp2, tp3, tp4, tp5, tp6, tp7, tp8, tp9, tp10, tp11, tp12, Py.c0, Py.b1, Py.b2, Py.b3, Py.bA, Py.a0, Py.a1, Py.tb, Py.p2i, Py.qDo, Py.q1, Py.qIf, Py.qRt, Py.q0, Py.qAp, Py.mkF, Py.sbI, Py.ixD, Py.cpI, Py.asB, Py.truD, Py.tN, Py.tA, Py.tO, Py.vA, Py.vO, Py.vN, Py.cI, Py.iB, Py.ia0, Py.ia1, Py.iaM, Py.imD, Py.ngI, Py.liD, Py.tuD, Py.intD, Py.maxD, Py.minD, Py.sq, Py.flt, Py.ch, Py.itD, Py.itA, Py.asS, Option.bind_some, Option.bind_none, Option.map_some, Option.map_none, List.map_cons, List.map_nil, List.cons_append, List.nil_append, List.length_cons, List.length_nil, List.replicate, Int.reduceLT, Int.reduceLE, Int.reduceGT, Int.reduceGE, Int.reduceEq, Int.reduceNe, Int.reduceAdd, Int.reduceSub, Int.reduceMul, Int.reduceNeg, Int.reduceMod, Int.reduceDiv, Nat.reduceAdd, Nat.reduceLT, decide_true, decide_false, if_true, if_false, reduceIte, and_self, and_true, true_and, or_true, true_or, or_false, false_or, not_true_eq_false, not_false_eq_true, Bool.not_true, Bool.not_false, Bool.false_eq_true, Py.cD, List.append_nil, Py.lcF, Py.wipeE, List.foldr, List.set_cons_succ, List.set_cons_zero, Py.itD, Py.asS, hR, n1, nz, len_l, lr, f1, fz, ds, re, hc1, hc2, hnd, rf, z1, e4, r1, r3, nr, hl, hl2, fin]
end K73

open PySem PySem.W PySem.Calls PyProof.Rows
theorem PySem.Challenge.cw_widenrows_k73_places_that_are_none_holds : PySem.Challenge.rw_widenrows_k73_places_that_are_none.Holds := by
  w_on; o_law
  refine HandSHeadRun.head_any (r := OpenLaw.row PySem.Challenge.rw_widenrows_k73_places_that_are_none) (q := view (OpenLaw.row PySem.Challenge.rw_widenrows_k73_places_that_are_none).prog [32]) (H := K73.hk) (ob := K73.ob) (M := 3000) (loose := K73.loose) (d := HandSHeadRun.topDef (OpenLaw.row PySem.Challenge.rw_widenrows_k73_places_that_are_none).prog 32) (kwd := []) K73.ob_eq
    (by kernel_rfl) (fun s => by kernel_rfl) K73.run (by kernel_rfl) (by kernel_rfl) (by kernel_rfl) (by rfl) (by first | assumption | decide +kernel) (by decide +kernel) ⟨rfl, rfl, rfl, rfl, rfl, by decide +kernel⟩ ?hw ?hc
  case hw => w_witness2
  case hc =>
    refine Py.walk_ofW (l := PySem.Challenge.rw_widenrows_k73_places_that_are_none) (n := 63) (k := 8) (x := "_law_script") rfl (by decide) (by kernel_rfl) ⟨rfl, by decide, by decide⟩ ?F
    intro w mg fa h Y G hmg0
    obtain ⟨K, KX, c⟩ := Y
    have hmg : mg ("law" : PySem.Str) = some (.ref fa) := by
      have e : (HandSHeadRun.topDef (OpenLaw.row PySem.Challenge.rw_widenrows_k73_places_that_are_none).prog 32).name = ("law" : PySem.Str) := by kernel_rfl
      rw [← e]
      exact hmg0
    obtain ⟨fd, hb, hF⟩ := K73.facts (P := (PySem.Challenge.rw_widenrows_k73_places_that_are_none).prog) (w := w) K73.pure KX G hmg c
    exact ⟨K, fd, Py.spLaw K, KX, hb, fun H a ns hl _ hS => ⟨a, ns, rfl, hl, hS, fun _ => rfl⟩, hF⟩
