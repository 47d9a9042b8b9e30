import PyProof.Rows.All
import Wide.All
import OpenK.AllK
import Wide.FinOn
import KE.KStateDown
import Lean
import HandS.ForMost
import HandS.Exc
import HandS.WordsExc
import HandS.More
import HandS.Defaults
import HandS.Wide
import HandS.Zip
import HandS.IsInst
import HandS.Flow
import HandS.Style
import PyProof.ReprLen
import HandS.Head0
import HandS.Head1
import HandS.Head2
import HandS.HeadEnd
import HandS.HeadHook1
import HandS.HeadHook2
import HandS.EndBits
import HandS.Property
import HandS.SetFor
import HandS.Strs
import HandS.HeadHook3
import HandS.Star
import KE.GoesEnum
import HandS.TupAny
import HandS.ExcOwn
import HandS.ExcField
import HandS.ExcInit
import HandS.ExcIs
import HandS.TryMany
import HandS.SortInts
import HandS.Deep
import HandS.Text
import HandS.Replace
import KE.KIntText
import PySem.Challenge.RW_valvelevels_k55_polynomials_that_are_non
set_option Elab.async false
set_option linter.all false
set_option maxRecDepth 100000
set_option maxHeartbeats 2000000
namespace DL
open PySem PySem.Spec PyProof.Rows L2

/-- plain data, instances of own classes among them -/
inductive DD where
  | non | bl (b : Bool) | int (i : Int) | str (x : Str) | lst (l : List DD) | tup (l : List DD) | obj (C : Addr) (fs : List (Str × DD)) | opq (v : V) | at_ (v : V) (d : DD) | klst (l : List DD) | exc (a dx C : Addr) (d : DD) | dct (fs : List (Str × DD))

mutual
inductive Rq (K : PySem.W.Frag) (G : Hp) : V → DD → Prop
  | non : Rq K G .non .non
  | bl (b : Bool) : Rq K G (.bl b) (.bl b)
  | int (i : Int) : Rq K G (.int i) (.int i)
  | str (x : Str) : Rq K G (.str x) (.str x)
  | opq (v : V) : Rq K G v (.opq v)
  | lst {a : Addr} {xs : List V} {ds : List DD} : Rd G a (.lst xs) → RqA K G xs ds → Rq K G (.ref a) (.lst ds)
  | tup {a : Addr} {xs : List V} {ds : List DD} : SqT K G a xs → RqA K G xs ds → Rq K G (.ref a) (.tup ds)
  | obj {a C dx : Addr} {fs : List (Str × V)} {ds : List (Str × DD)} : G a = some (.ins C dx fs) → RqF K G fs ds → Rq K G (.ref a) (.obj C ds)
  | at_ {v : V} {d : DD} : Rq K G v d → Rq K G v (.at_ v d)
  | klst {a : Addr} {xs : List V} {ds : List DD} : SqL K (fun _ => none) a xs → RqA K G xs ds → Rq K G (.ref a) (.klst ds)
  | exc {a dx C : Addr} {v : V} {d : DD} : G dx = some (.xd [(("value" : Str), v)]) → Rq K G v d → Rq K G (.ref a) (.exc a dx C d)
  | dct {a : Addr} {fs : List (Str × V)} {ds : List (Str × DD)} : G a = some (.dK (fs.map fun p => (Sum.inr p.1, p.2))) → RqF K G fs ds → Rq K G (.ref a) (.dct ds)
inductive RqA (K : PySem.W.Frag) (G : Hp) : List V → List DD → Prop
  | nil : RqA K G [] []
  | cons {v : V} {vs : List V} {d : DD} {ds : List DD} : Rq K G v d → RqA K G vs ds → RqA K G (v :: vs) (d :: ds)
inductive RqF (K : PySem.W.Frag) (G : Hp) : List (Str × V) → List (Str × DD) → Prop
  | nil : RqF K G [] []
  | cons {f : Str} {v : V} {vs : List (Str × V)} {d : DD} {ds : List (Str × DD)} : Rq K G v d → RqF K G vs ds → RqF K G ((f, v) :: vs) ((f, d) :: ds)
end

def Sub (G H : Hp) : Prop := ∀ a o, G a = some o → H a = some o
theorem Sub.refl (G : Hp) : Sub G G := fun _ _ h => h
theorem Sub.trans {G H I : Hp} (a : Sub G H) (b : Sub H I) : Sub G I := fun x o h => b x o (a x o h)
theorem Sub.rd {G H : Hp} (s : Sub G H) {a : Addr} {u : HO} (h : Rd G a u) : Rd H a u := h.elim (fun h => .inl (s a _ h)) fun ⟨o, h⟩ => .inr ⟨o, s a _ h⟩
theorem Sub.l {K : PySem.W.Frag} {G H : Hp} (s : Sub G H) {a : Addr} {xs : List V} (h : SqL K G a xs) : SqL K H a xs := h.elim (fun h => .inl (s.rd h)) .inr
theorem Sub.t {K : PySem.W.Frag} {G H : Hp} (s : Sub G H) {a : Addr} {xs : List V} (h : SqT K G a xs) : SqT K H a xs := h.elim (fun h => .inl (s.rd h)) .inr
section
variable {K : PySem.W.Frag} {G H : Hp} (s : Sub G H)
mutual
theorem Rq.mono (s : Sub G H) : ∀ {v : V} {d : DD}, Rq K G v d → Rq K H v d
  | _, _, .non => .non
  | _, _, .bl b => .bl b
  | _, _, .int i => .int i
  | _, _, .str x => .str x
  | _, _, .opq v => .opq v
  | _, _, .lst h a => .lst (s.rd h) (RqA.mono s a)
  | _, _, .tup h a => .tup (s.t h) (RqA.mono s a)
  | _, _, .obj h a => .obj (s _ _ h) (RqF.mono s a)
  | _, _, .at_ h => .at_ (Rq.mono s h)
  | _, _, .klst h a => .klst h (RqA.mono s a)
  | _, _, .exc h a => .exc (s _ _ h) (Rq.mono s a)
  | _, _, .dct h a => .dct (s _ _ h) (RqF.mono s a)
theorem RqA.mono (s : Sub G H) : ∀ {v : List V} {d : List DD}, RqA K G v d → RqA K H v d
  | _, _, .nil => .nil
  | _, _, .cons a b => .cons (Rq.mono s a) (RqA.mono s b)
theorem RqF.mono (s : Sub G H) : ∀ {v : List (Str × V)} {d : List (Str × DD)}, RqF K G v d → RqF K H v d
  | _, _, .nil => .nil
  | _, _, .cons a b => .cons (Rq.mono s a) (RqF.mono s b)
end
end

mutual
def DD.py : DD → PyData
  | .non => .none
  | .bl b => .bool b
  | .int i => .int i
  | .str x => .str x
  | .lst l => .list (DD.pys l)
  | .tup l => .tuple (DD.pys l)
  | .obj _ _ => .none
  | .opq _ => .none
  | .at_ _ d => d.py
  | .klst l => .list (DD.pys l)
  | .exc _ _ _ _ => .none
  | .dct _ => .none
def DD.pys : List DD → List PyData
  | [] => []
  | d :: r => d.py :: DD.pys r
end
mutual
def DD.pure : DD → Bool
  | .lst l => DD.pures l
  | .tup l => DD.pures l
  | .obj _ _ => false
  | .opq _ => false
  | .exc _ _ _ _ => false
  | .dct _ => false
  | .at_ _ d => d.pure
  | .klst l => DD.pures l
  | _ => true
def DD.pures : List DD → Bool
  | [] => true
  | d :: r => d.pure && DD.pures r
end
mutual
theorem Rq.dp {K : PySem.W.Frag} {G : Hp} : ∀ {v : V} {d : DD}, Rq K G v d → d.pure = true → Dp K G v d.py
  | _, _, .non, _ => .non
  | _, _, .bl b, _ => .bl b
  | _, _, .int i, _ => .int i
  | _, _, .str x, _ => .str x
  | _, _, .lst h a, p => .lst (.inl h) (RqA.dp a p)
  | _, _, .tup h a, p => .tup h (RqA.dp a p)
  | _, _, .at_ (v := v) (d := d) h, p => (Rq.dp (v := v) (d := d) h p : Dp K G v d.py)
  | _, _, .klst h a, p => .lst (Sub.l (G := fun _ => none) (fun _ _ z => by cases z) h) (RqA.dp a p)
theorem RqA.dp {K : PySem.W.Frag} {G : Hp} : ∀ {v : List V} {d : List DD}, RqA K G v d → DD.pures d = true → DpAll K G v (DD.pys d)
  | _, _, .nil, _ => .nil
  | _, _, .cons a b, p => .cons (Rq.dp a (by simp [DD.pures] at p; exact p.1)) (RqA.dp b (by simp [DD.pures] at p; exact p.2))
end
theorem RqA.length {K : PySem.W.Frag} {G : Hp} : ∀ {v : List V} {d : List DD}, RqA K G v d → v.length = d.length
  | _, _, .nil => rfl
  | _, _, .cons _ b => congrArg (· + 1) (RqA.length b)
theorem RqA.get {K : PySem.W.Frag} {G : Hp} : ∀ {v : List V} {d : List DD} {i : Nat} {x : DD}, RqA K G v d → d[i]? = some x → ∃ u, v[i]? = some u ∧ Rq K G u x
  | _, _, _, _, .nil, e => by simp at e
  | _, _, 0, _, .cons a _, e => by simp at e; subst e; exact ⟨_, rfl, a⟩
  | _, _, i + 1, _, .cons _ b, e => by
    obtain ⟨u, h1, h2⟩ := RqA.get (i := i) b (by simpa using e)
    exact ⟨u, by simpa using h1, h2⟩
theorem RqA.getV {K : PySem.W.Frag} {G : Hp} : ∀ {v : List V} {d : List DD} {i : Nat} {u : V}, RqA K G v d → v[i]? = some u → ∃ x, d[i]? = some x ∧ Rq K G u x
  | _, _, _, _, .nil, e => by simp at e
  | _, _, 0, _, .cons a _, e => by simp at e; subst e; exact ⟨_, rfl, a⟩
  | _, _, i + 1, _, .cons _ b, e => by
    obtain ⟨u, h1, h2⟩ := RqA.getV (i := i) b (by simpa using e)
    exact ⟨u, by simpa using h1, h2⟩
theorem RqA.append {K : PySem.W.Frag} {G : Hp} : ∀ {v w : List V} {d e : List DD}, RqA K G v d → RqA K G w e → RqA K G (v ++ w) (d ++ e)
  | _, _, _, _, .nil, h => h
  | _, _, _, _, .cons a b, h => .cons a (RqA.append b h)
theorem RqA.take {K : PySem.W.Frag} {G : Hp} : ∀ {v : List V} {d : List DD} (n : Nat), RqA K G v d → RqA K G (v.take n) (d.take n)
  | _, _, 0, _ => .nil
  | _, _, _ + 1, .nil => .nil
  | _, _, n + 1, .cons a b => .cons a (RqA.take n b)
theorem RqA.drop {K : PySem.W.Frag} {G : Hp} : ∀ {v : List V} {d : List DD} (n : Nat), RqA K G v d → RqA K G (v.drop n) (d.drop n)
  | _, _, 0, h => h
  | _, _, _ + 1, .nil => .nil
  | _, _, n + 1, .cons _ b => RqA.drop n b
theorem RqA.set {K : PySem.W.Frag} {G : Hp} {x : V} {y : DD} (r : Rq K G x y) : ∀ {v : List V} {d : List DD} (n : Nat), RqA K G v d → RqA K G (v.set n x) (d.set n y)
  | _, _, _, .nil => .nil
  | _, _, 0, .cons _ b => .cons r b
  | _, _, n + 1, .cons a b => .cons a (RqA.set r n b)
theorem RqA.reverse {K : PySem.W.Frag} {G : Hp} {v : List V} {d : List DD} (h : RqA K G v d) : RqA K G v.reverse d.reverse := by
  have aux : ∀ {v : List V} {d : List DD}, RqA K G v d → RqA K G v.reverse d.reverse := by
    intro v
    induction v with
    | nil => intro d h; cases h; exact .nil
    | cons x v ih =>
      intro d h
      cases h with
      | cons a b =>
        rw [List.reverse_cons, List.reverse_cons]
        exact RqA.append (ih b) (.cons a .nil)
  exact aux h

/-! ### trees of lists and instances that are held by one place alone -/
inductive SV where
  | dat (d : DD)
  | own (ts : List SV)
  | ob (C : Addr) (fs : List (Str × SV))
  | tp (ts : List SV)
  | ex (a dx C : Addr) (t : SV)
abbrev Rho := List (Option SV)

mutual
def SV.data : SV → DD
  | .dat d => d
  | .own ts => .lst (SV.datas ts)
  | .ob C fs => .obj C (SV.dataF fs)
  | .tp ts => .tup (SV.datas ts)
  | .ex a dx C t => .exc a dx C t.data
def SV.datas : List SV → List DD
  | [] => []
  | t :: r => t.data :: SV.datas r
def SV.dataF : List (Str × SV) → List (Str × DD)
  | [] => []
  | (f, t) :: r => (f, t.data) :: SV.dataF r
end
theorem SV.datas_eq : ∀ ts : List SV, SV.datas ts = ts.map SV.data
  | [] => rfl
  | t :: r => by simp [SV.datas, SV.datas_eq r]

mutual
inductive OT (K : PySem.W.Frag) (G H : Hp) : V → SV → List Addr → Prop
  | dat {v : V} {d : DD} : Rq K G v d → OT K G H v (.dat d) []
  | own {a : Addr} {vs : List V} {ts : List SV} {fp : List Addr} : H a = some (.lst vs) → G a = none → OTs K G H vs ts fp → a ∉ fp → OT K G H (.ref a) (.own ts) (a :: fp)
  | ob {a C dx : Addr} {vs : List (Str × V)} {ts : List (Str × SV)} {fp : List Addr} : H a = some (.ins C dx vs) → H dx = some (.own a) → G a = none → G dx = none → OTf K G H vs ts fp → a ≠ dx → a ∉ fp → dx ∉ fp → OT K G H (.ref a) (.ob C ts) (a :: dx :: fp)
  | tp {a : Addr} {vs : List V} {ts : List SV} {fp : List Addr} : SqT K G a vs → OTs K G H vs ts fp → OT K G H (.ref a) (.tp ts) fp
  | ex {a dx C : Addr} {v : V} {t : SV} {fp : List Addr} : G dx = some (.xd [(("value" : Str), v)]) → OT K G H v t fp → OT K G H (.ref a) (.ex a dx C t) fp
inductive OTs (K : PySem.W.Frag) (G H : Hp) : List V → List SV → List Addr → Prop
  | nil : OTs K G H [] [] []
  | cons {v : V} {t : SV} {vs : List V} {ts : List SV} {f1 f2 : List Addr} : OT K G H v t f1 → OTs K G H vs ts f2 → (∀ a ∈ f1, a ∉ f2) → OTs K G H (v :: vs) (t :: ts) (f1 ++ f2)
inductive OTf (K : PySem.W.Frag) (G H : Hp) : List (Str × V) → List (Str × SV) → List Addr → Prop
  | nil : OTf K G H [] [] []
  | cons {f : Str} {v : V} {t : SV} {vs : List (Str × V)} {ts : List (Str × SV)} {f1 f2 : List Addr} : OT K G H v t f1 → OTf K G H vs ts f2 → (∀ a ∈ f1, a ∉ f2) → OTf K G H ((f, v) :: vs) ((f, t) :: ts) (f1 ++ f2)
end
section
variable {K : PySem.W.Frag} {G H G' H' : Hp}
mutual
theorem OT.mono (s : Sub G G') : ∀ {v : V} {t : SV} {fp : List Addr}, OT K G H v t fp → (∀ a ∈ fp, ∀ o, H a = some o → H' a = some o) → (∀ a ∈ fp, G' a = none) → OT K G' H' v t fp
  | _, _, _, .dat r, _, _ => .dat (r.mono s)
  | _, _, _, .own h g ts n, k, z => .own (k _ List.mem_cons_self _ h) (z _ List.mem_cons_self) (OTs.mono s ts (fun a m => k a (List.mem_cons_of_mem _ m)) fun a m => z a (List.mem_cons_of_mem _ m)) n
  | _, _, _, .ob h hd g gd ts ne n nd, k, z => .ob (k _ List.mem_cons_self _ h) (k _ (List.mem_cons_of_mem _ List.mem_cons_self) _ hd) (z _ List.mem_cons_self) (z _ (List.mem_cons_of_mem _ List.mem_cons_self))
      (OTf.mono s ts (fun a m => k a (List.mem_cons_of_mem _ (List.mem_cons_of_mem _ m))) fun a m => z a (List.mem_cons_of_mem _ (List.mem_cons_of_mem _ m))) ne n nd
  | _, _, _, .tp h ts, k, z => .tp (s.t h) (OTs.mono s ts k z)
  | _, _, _, .ex h t, k, z => .ex (s _ _ h) (OT.mono s t k z)
theorem OTs.mono (s : Sub G G') : ∀ {v : List V} {t : List SV} {fp : List Addr}, OTs K G H v t fp → (∀ a ∈ fp, ∀ o, H a = some o → H' a = some o) → (∀ a ∈ fp, G' a = none) → OTs K G' H' v t fp
  | _, _, _, .nil, _, _ => .nil
  | _, _, _, .cons a b d, k, z => .cons (OT.mono s a (fun x m => k x (List.mem_append_left _ m)) fun x m => z x (List.mem_append_left _ m)) (OTs.mono s b (fun x m => k x (List.mem_append_right _ m)) fun x m => z x (List.mem_append_right _ m)) d
theorem OTf.mono (s : Sub G G') : ∀ {v : List (Str × V)} {t : List (Str × SV)} {fp : List Addr}, OTf K G H v t fp → (∀ a ∈ fp, ∀ o, H a = some o → H' a = some o) → (∀ a ∈ fp, G' a = none) → OTf K G' H' v t fp
  | _, _, _, .nil, _, _ => .nil
  | _, _, _, .cons a b d, k, z => .cons (OT.mono s a (fun x m => k x (List.mem_append_left _ m)) fun x m => z x (List.mem_append_left _ m)) (OTf.mono s b (fun x m => k x (List.mem_append_right _ m)) fun x m => z x (List.mem_append_right _ m)) d
end
mutual
theorem OT.here : ∀ {v : V} {t : SV} {fp : List Addr}, OT K G H v t fp → ∀ a ∈ fp, (∃ o, H a = some o) ∧ G a = none
  | _, _, _, .dat _, a, m => by cases m
  | _, _, _, .own h g ts _, a, m => by
    rcases List.mem_cons.mp m with e | m
    · subst e; exact ⟨⟨_, h⟩, g⟩
    · exact OTs.here ts a m
  | _, _, _, .ob h hd g gd ts _ _ _, a, m => by
    rcases List.mem_cons.mp m with e | m
    · subst e; exact ⟨⟨_, h⟩, g⟩
    · rcases List.mem_cons.mp m with e | m
      · subst e; exact ⟨⟨_, hd⟩, gd⟩
      · exact OTf.here ts a m
  | _, _, _, .tp h ts, a, m => OTs.here ts a m
  | _, _, _, .ex h t, a, m => OT.here t a m
theorem OTs.here : ∀ {v : List V} {t : List SV} {fp : List Addr}, OTs K G H v t fp → ∀ a ∈ fp, (∃ o, H a = some o) ∧ G a = none
  | _, _, _, .nil, a, m => by cases m
  | _, _, _, .cons x y _, a, m => (List.mem_append.mp m).elim (OT.here x a) (OTs.here y a)
theorem OTf.here : ∀ {v : List (Str × V)} {t : List (Str × SV)} {fp : List Addr}, OTf K G H v t fp → ∀ a ∈ fp, (∃ o, H a = some o) ∧ G a = none
  | _, _, _, .nil, a, m => by cases m
  | _, _, _, .cons x y _, a, m => (List.mem_append.mp m).elim (OT.here x a) (OTf.here y a)
end
/-- the standing part with some addresses more -/
def sealH (G H : Hp) (fp : List Addr) : Hp := fun a => if a ∈ fp then H a else G a
theorem sealH_sub {fp : List Addr} (n : ∀ a ∈ fp, G a = none) : Sub G (sealH G H fp) := fun a o h => by
  unfold sealH
  by_cases m : a ∈ fp
  · rw [n a m] at h; cases h
  · rw [if_neg m]; exact h
theorem sealH_in {fp : List Addr} {a : Addr} (m : a ∈ fp) : sealH G H fp a = H a := if_pos m
theorem sealH_out {fp : List Addr} {a : Addr} (m : a ∉ fp) : sealH G H fp a = G a := if_neg m
theorem sealH_nil : sealH G H [] = G := by funext a; unfold sealH; simp
mutual
theorem OT.sealed {F : Hp} (s : Sub G F) : ∀ {v : V} {t : SV} {fp : List Addr}, OT K G H v t fp → (∀ a ∈ fp, ∀ o, H a = some o → F a = some o) → Rq K F v t.data
  | _, _, _, .dat r, _ => r.mono s
  | _, _, _, .own h g ts n, k => .lst (.inl (k _ List.mem_cons_self _ h)) (OTs.sealed s ts fun a m => k a (List.mem_cons_of_mem _ m))
  | _, _, _, .ob h hd g gd ts _ _ _, k => .obj (k _ List.mem_cons_self _ h) (OTf.sealed s ts fun a m => k a (List.mem_cons_of_mem _ (List.mem_cons_of_mem _ m)))
  | _, _, _, .tp h ts, k => .tup (s.t h) (OTs.sealed s ts k)
  | _, _, _, .ex h t, k => .exc (s _ _ h) (OT.sealed s t k)
theorem OTs.sealed {F : Hp} (s : Sub G F) : ∀ {v : List V} {t : List SV} {fp : List Addr}, OTs K G H v t fp → (∀ a ∈ fp, ∀ o, H a = some o → F a = some o) → RqA K F v (SV.datas t)
  | _, _, _, .nil, _ => .nil
  | _, _, _, .cons a b d, k => .cons (OT.sealed s a fun x m => k x (List.mem_append_left _ m)) (OTs.sealed s b fun x m => k x (List.mem_append_right _ m))
theorem OTf.sealed {F : Hp} (s : Sub G F) : ∀ {v : List (Str × V)} {t : List (Str × SV)} {fp : List Addr}, OTf K G H v t fp → (∀ a ∈ fp, ∀ o, H a = some o → F a = some o) → RqF K F v (SV.dataF t)
  | _, _, _, .nil, _ => .nil
  | _, _, _, .cons a b d, k => .cons (OT.sealed s a fun x m => k x (List.mem_append_left _ m)) (OTf.sealed s b fun x m => k x (List.mem_append_right _ m))
end
end
end DL

namespace DL
open PySem PySem.Spec PyProof.Rows L2

theorem OT.dat_inv {K : PySem.W.Frag} {G H : Hp} {v : V} {d : DD} {fp : List Addr} (h : OT K G H v (.dat d) fp) : Rq K G v d ∧ fp = [] := by
  generalize e : SV.dat d = t at h
  cases h with
  | dat r => injection e with e; subst e; exact ⟨r, rfl⟩
  | own => cases e
  | ob => cases e
  | tp => cases e
  | ex => cases e
theorem OT.own_inv {K : PySem.W.Frag} {G H : Hp} {v : V} {ts : List SV} {fp : List Addr} (h : OT K G H v (.own ts) fp) : ∃ a vs f, v = .ref a ∧ fp = a :: f ∧ H a = some (.lst vs) ∧ G a = none ∧ OTs K G H vs ts f ∧ a ∉ f := by
  generalize e : SV.own ts = t at h
  cases h with
  | dat r => cases e
  | own h g o n => injection e with e; subst e; exact ⟨_, _, _, rfl, rfl, h, g, o, n⟩
  | ob => cases e
  | tp => cases e
  | ex => cases e
theorem OT.ob_inv {K : PySem.W.Frag} {G H : Hp} {v : V} {C : Addr} {ts : List (Str × SV)} {fp : List Addr} (h : OT K G H v (.ob C ts) fp) :
    ∃ a dx vs f, v = .ref a ∧ fp = a :: dx :: f ∧ H a = some (.ins C dx vs) ∧ H dx = some (.own a) ∧ G a = none ∧ G dx = none ∧ OTf K G H vs ts f ∧ a ≠ dx ∧ a ∉ f ∧ dx ∉ f := by
  generalize e : SV.ob C ts = t at h
  cases h with
  | dat r => cases e
  | own => cases e
  | ob h1 h2 h3 h4 h5 h6 h7 h8 => injection e with e1 e2; subst e1 e2; exact ⟨_, _, _, _, rfl, rfl, h1, h2, h3, h4, h5, h6, h7, h8⟩
  | tp => cases e
  | ex => cases e
theorem OT.tp_inv {K : PySem.W.Frag} {G H : Hp} {v : V} {ts : List SV} {fp : List Addr} (h : OT K G H v (.tp ts) fp) : ∃ a vs, v = .ref a ∧ SqT K G a vs ∧ OTs K G H vs ts fp := by
  generalize e : SV.tp ts = t at h
  cases h with
  | dat r => cases e
  | own => cases e
  | ob => cases e
  | tp h o => injection e with e; subst e; exact ⟨_, _, rfl, h, o⟩
  | ex => cases e
theorem OT.ex_inv {K : PySem.W.Frag} {G H : Hp} {v : V} {a dx C : Addr} {u : SV} {fp : List Addr} (h : OT K G H v (.ex a dx C u) fp) : ∃ w, v = .ref a ∧ G dx = some (.xd [(("value" : Str), w)]) ∧ OT K G H w u fp := by
  generalize e : SV.ex a dx C u = t at h
  cases h with
  | dat r => cases e
  | own => cases e
  | ob => cases e
  | tp => cases e
  | ex h o => injection e with e1 e2 e3 e4; subst e1 e2 e3 e4; exact ⟨_, rfl, h, o⟩
def In (fp : Nat → List Addr) (a : Addr) : Prop := ∃ i, a ∈ fp i
/-- the slots and what they hold -/
structure Co (K : PySem.W.Frag) (G H : Hp) (σ : L2.St) (ρ : Rho) (fp : Nat → List Addr) : Prop where
  len : σ.length = ρ.length
  sub : Sub G H
  slot : ∀ (i : Nat) t, ρ[i]? = some (some t) → ∃ v, σ[i]? = some (some v) ∧ OT K G H v t (fp i)
  nil : ∀ i : Nat, (∀ t, ρ[i]? ≠ some (some t)) → fp i = []
  dis : ∀ (i j : Nat) a, a ∈ fp i → a ∈ fp j → i = j
/-- a step: O may change -/
structure Stp (O : Addr → Prop) (G H G' H' : Hp) : Prop where
  ex : Sub G G'
  keep : ∀ a o, ¬ O a → H a = some o → H' a = some o
  hid : ∀ a o, ¬ O a → H a = some o → G a = none → G' a = none
theorem Stp.refl {O : Addr → Prop} (G H : Hp) : Stp O G H G H := ⟨Sub.refl G, fun _ _ _ h => h, fun _ _ _ _ h => h⟩
theorem Stp.trans {O O' : Addr → Prop} {G H G1 H1 G2 H2 : Hp} (a : Stp O G H G1 H1) (b : Stp O' G1 H1 G2 H2) (h : ∀ x, O' x → O x ∨ H x = none) : Stp O G H G2 H2 := by
  have no : ∀ x o, ¬ O x → H x = some o → ¬ O' x := fun x o n e q => by
    rcases h x q with z | z
    · exact n z
    · rw [e] at z; cases z
  exact ⟨a.ex.trans b.ex, fun x o n e => b.keep x o (no x o n e) (a.keep x o n e), fun x o n e g => b.hid x o (no x o n e) (a.keep x o n e) (a.hid x o n e g)⟩
theorem Stp.sealed {O : Addr → Prop} {G H G' H' : Hp} {fr : List Addr} (a : Stp O G H G' H') (n : ∀ x ∈ fr, G' x = none) (h : ∀ x ∈ fr, H x = none ∨ O x) : Stp O G H (sealH G' H' fr) H' :=
  ⟨a.ex.trans (sealH_sub n), a.keep, fun x o nO e g => by
    have : x ∉ fr := fun m => by
      rcases h x m with z | z
      · rw [e] at z; cases z
      · exact nO z
    rw [sealH_out this]; exact a.hid x o nO e g⟩
/-- the entry of the def -/
structure Bs where
  vs : List V
  as : List SV
  io : List Nat
  G0 : Hp
  H0 : Hp
  fp0 : Nat → List Addr
  /-- a floor: what stands from some place on -/
  L : Hp
structure Rp (K : PySem.W.Frag) (B : Bs) (G H : Hp) (σ : L2.St) (ρ : Rho) (fp : Nat → List Addr) : Prop where
  co : Co K G H σ ρ fp
  stp : Stp (In B.fp0) B.G0 B.H0 G H
  own : ∀ a, In fp a → In B.fp0 a ∨ B.H0 a = none
  io : ∀ i ∈ B.io, ∃ v t, B.vs[i]? = some v ∧ σ[i]? = some (some v) ∧ ρ[i]? = some (some t)
  lo : Sub B.L G
structure Nxt (K : PySem.W.Frag) (B : Bs) (σ : L2.St) (G H : Hp) (fp : Nat → List Addr) (G' H' : Hp) (ρ' : Rho) (fp' : Nat → List Addr) : Prop where
  rp : Rp K B G' H' σ ρ' fp'
  st : Stp (In fp) G H G' H'
  inn : ∀ a, In fp' a → In fp a ∨ H a = none
section
variable {K : PySem.W.Frag} {B : Bs} {σ : L2.St} {G H G' H' G1 H1 G2 H2 : Hp} {ρ ρ' ρ1 ρ2 : Rho} {fp fp' fp1 fp2 : Nat → List Addr}
theorem Nxt.refl (R : Rp K B G H σ ρ fp) : Nxt K B σ G H fp G H ρ fp := ⟨R, Stp.refl G H, fun _ h => .inl h⟩
theorem Stp.fresh {O : Addr → Prop} (s : Stp O G H G1 H1) {a : Addr} (n : ¬ O a) (h : H1 a = none) : H a = none := by
  cases e : H a with
  | none => rfl
  | some o => have := s.keep a o n e; rw [h] at this; cases this
theorem Nxt.trans (a : Nxt K B σ G H fp G1 H1 ρ1 fp1) (b : Nxt K B σ G1 H1 fp1 G2 H2 ρ2 fp2) : Nxt K B σ G H fp G2 H2 ρ2 fp2 :=
  ⟨b.rp, a.st.trans b.st a.inn, fun x h => (b.inn x h).elim (fun h => a.inn x h) fun h => by
    by_cases m : In fp x
    · exact .inl m
    · exact .inr (a.st.fresh m h)⟩
theorem Co.here (c : Co K G H σ ρ fp) {a : Addr} (h : In fp a) : (∃ o, H a = some o) ∧ G a = none := by
  obtain ⟨i, m⟩ := h
  by_cases q : ∃ t, ρ[i]? = some (some t)
  · obtain ⟨t, q⟩ := q
    obtain ⟨v, _, ot⟩ := c.slot i t q
    exact ot.here a m
  · rw [c.nil i fun t e => q ⟨t, e⟩] at m; cases m
/-- new objects alone -/
theorem Co.grow (c : Co K G H σ ρ fp) (s : Sub G G') (k : ∀ a, In fp a → ∀ o, H a = some o → H' a = some o) (z : ∀ a, In fp a → G' a = none) (sub : Sub G' H') : Co K G' H' σ ρ fp :=
  ⟨c.len, sub, fun i t e => by
    obtain ⟨v, e1, ot⟩ := c.slot i t e
    exact ⟨v, e1, ot.mono s (fun a m o h => k a ⟨i, m⟩ o h) fun a m => z a ⟨i, m⟩⟩, c.nil, c.dis⟩
/-- an object that nothing held is laid, and stands or is held by a temporary -/
theorem Nxt.laid {p : Addr} {o : HO} (R : Rp K B G H σ ρ fp) (hp : H p = none) : Nxt K B σ G H fp G (upd H p o) ρ fp := by
  have ne : ∀ a, In fp a → a ≠ p := fun a m e => by
    obtain ⟨⟨o, h⟩, _⟩ := R.co.here m
    subst e; rw [hp] at h; cases h
  have kp : ∀ a u, H a = some u → upd H p o a = some u := fun a u e => by rw [upd_ne (ne_of_none e hp)]; exact e
  have st : Stp (In fp) G H G (upd H p o) := ⟨Sub.refl G, fun a u _ e => kp a u e, fun _ _ _ _ g => g⟩
  exact ⟨⟨R.co.grow (Sub.refl G) (fun a m u e => kp a u e) (fun a m => (R.co.here m).2) (fun a u e => kp a u (R.co.sub a u e)), R.stp.trans st R.own, R.own, R.io, R.lo⟩, st, fun _ h => .inl h⟩
/-- a temporary is sealed -/
theorem Nxt.sealed {v : V} {r : SV} {fr : List Addr} (R : Rp K B G H σ ρ fp) (n : Nxt K B σ G H fp G' H' ρ' fp') (ot : OT K G' H' v r fr) (h1 : ∀ a ∈ fr, ¬ In fp' a) (h2 : ∀ a ∈ fr, H a = none ∨ In fp a) :
    Nxt K B σ G H fp (sealH G' H' fr) H' ρ' fp' ∧ Rq K (sealH G' H' fr) v r.data := by
  have g0 : ∀ a ∈ fr, G' a = none := fun a m => (ot.here a m).2
  have sub : Sub (sealH G' H' fr) H' := fun a o e => by
    by_cases m : a ∈ fr
    · rw [sealH_in m] at e; exact e
    · rw [sealH_out m] at e; exact n.rp.co.sub a o e
  refine ⟨⟨⟨n.rp.co.grow (sealH_sub g0) (fun _ _ _ e => e) (fun a m => ?_) sub, n.rp.stp.sealed g0 fun a m => ?_, n.rp.own, n.rp.io, n.rp.lo.trans (sealH_sub g0)⟩, n.st.sealed g0 h2, n.inn⟩, ot.sealed (sealH_sub g0) fun a m o e => by rw [sealH_in m]; exact e⟩
  · rw [sealH_out fun z => h1 a z m]; exact (n.rp.co.here m).2
  · rcases h2 a m with z | z
    · by_cases q : In B.fp0 a
      · exact .inr q
      · exact .inl (R.stp.fresh q z)
    · exact (R.own a z).symm
/-- a new object that stands from now on -/
theorem Nxt.stand {p : Addr} {o : HO} (R : Rp K B G H σ ρ fp) (hp : H p = none) : Nxt K B σ G H fp (upd G p o) (upd H p o) ρ fp := by
  have gp : G p = none := by
    cases e : G p with
    | none => rfl
    | some u => have := R.co.sub _ _ e; rw [hp] at this; cases this
  have ne : ∀ a, In fp a → a ≠ p := fun a m e => by
    obtain ⟨⟨o, h⟩, _⟩ := R.co.here m
    subst e; rw [hp] at h; cases h
  have kp : ∀ a u, H a = some u → upd H p o a = some u := fun a u e => by rw [upd_ne (ne_of_none e hp)]; exact e
  have sg : Sub G (upd G p o) := fun a u e => by rw [upd_ne (ne_of_none e gp)]; exact e
  have st : Stp (In fp) G H (upd G p o) (upd H p o) := ⟨sg, fun a u _ e => kp a u e, fun a u _ e g => by rw [upd_ne (ne_of_none e hp)]; exact g⟩
  refine ⟨⟨R.co.grow sg (fun a m u e => kp a u e) (fun a m => by rw [upd_ne (ne a m)]; exact (R.co.here m).2) (fun a u e => ?_), R.stp.trans st R.own, R.own, R.io, R.lo.trans sg⟩, st, fun _ h => .inl h⟩
  by_cases q : a = p
  · subst q; rw [upd_same] at e ⊢; exact e
  · rw [upd_ne q] at e ⊢; exact R.co.sub a u e
end

/-! ### what an expression is worth -/
abbrev FE := Rho → (SV → Rho → Prop) → Prop
abbrev FV := Rho → (DD → Rho → Prop) → Prop
/-- an operand: data, or what a slot holds when it is looked at -/
inductive OV where
  | d (x : DD)
  | r (i : Nat)
abbrev FO := Rho → (OV → Rho → Prop) → Prop
abbrev FT := Rho → (Bool → Rho → Prop) → Prop
def OVR (K : PySem.W.Frag) (G : Hp) (σ : L2.St) (v : V) : OV → Prop
  | .d x => Rq K G v x
  | .r i => σ[i]? = some (some v)
@[simp] def resT (ρ : Rho) : OV → Option SV
  | .d x => some (.dat x)
  | .r i => ρ[i]?.join
@[simp] def resD (ρ : Rho) (o : OV) : Option DD := (resT ρ o).map SV.data
@[simp] theorem resT_d (ρ : Rho) (x : DD) : resT ρ (.d x) = some (.dat x) := rfl
@[simp] theorem resT_r (ρ : Rho) (i : Nat) : resT ρ (.r i) = ρ[i]?.join := rfl
@[simp] theorem data_dat (d : DD) : (SV.dat d).data = d := by simp [SV.data]

def DE (K : PySem.W.Frag) (io : List Nat) (te : TE) (fe : FE) : Prop := ∀ (B : Bs) G H σ ρ fp (Qd : SV → Rho → Prop) (Q : VK), B.io = io → Rp K B G H σ ρ fp → fe ρ Qd →
  (∀ r ρ' v G' H' fp' fr, Nxt K B σ G H fp G' H' ρ' fp' → OT K G' H' v r fr → (∀ a ∈ fr, ¬ In fp' a) → (∀ a ∈ fr, H a = none ∨ In fp a) → Qd r ρ' → Q v H') → te σ H Q
def DV (K : PySem.W.Frag) (io : List Nat) (te : TE) (fv : FV) : Prop := ∀ (B : Bs) G H σ ρ fp (Qd : DD → Rho → Prop) (Q : VK), B.io = io → Rp K B G H σ ρ fp → fv ρ Qd →
  (∀ d ρ' v G' H' fp', Nxt K B σ G H fp G' H' ρ' fp' → Rq K G' v d → Qd d ρ' → Q v H') → te σ H Q
def DO (K : PySem.W.Frag) (io : List Nat) (te : TE) (fo : FO) : Prop := ∀ (B : Bs) G H σ ρ fp (Qd : OV → Rho → Prop) (Q : VK), B.io = io → Rp K B G H σ ρ fp → fo ρ Qd →
  (∀ o ρ' v G' H' fp', Nxt K B σ G H fp G' H' ρ' fp' → OVR K G' σ v o → Qd o ρ' → Q v H') → te σ H Q
def DT (K : PySem.W.Frag) (io : List Nat) (tt : TT) (ft : FT) : Prop := ∀ (B : Bs) G H σ ρ fp (Qd : Bool → Rho → Prop) (Q : Bool → Hp → Prop), B.io = io → Rp K B G H σ ρ fp → ft ρ Qd →
  (∀ b ρ' G' H' fp', Nxt K B σ G H fp G' H' ρ' fp' → Qd b ρ' → Q b H') → tt σ H Q
def PDe (X : Cx) (io : List Nat) (e : Expr) (fe : FE) : Prop := ∃ te, PE X e te ∧ DE X.K io te fe
def PDv (X : Cx) (io : List Nat) (e : Expr) (fv : FV) : Prop := ∃ te, PE X e te ∧ DV X.K io te fv
def PDo (X : Cx) (io : List Nat) (e : Expr) (fo : FO) : Prop := ∃ te, PE X e te ∧ DO X.K io te fo
def PDt (X : Cx) (io : List Nat) (e : Expr) (ft : FT) : Prop := ∃ tt, PT X e tt ∧ DT X.K io tt ft
@[simp] def eV (fe : FE) : FV := fun ρ Q => fe ρ fun r ρ' => Q r.data ρ'
@[simp] def vE (fv : FV) : FE := fun ρ Q => fv ρ fun d ρ' => Q (.dat d) ρ'
@[simp] def vO (fv : FV) : FO := fun ρ Q => fv ρ fun d ρ' => Q (.d d) ρ'
section
variable {X : Cx} {io : List Nat} {e a b c : Expr} {pos : Pos}
theorem ev {fe : FE} (h : PDe X io e fe) : PDv X io e (eV fe) := by
  obtain ⟨te, h1, h2⟩ := h
  refine ⟨te, h1, fun B G H σ ρ fp Qd Q hB R hf k => h2 B G H σ ρ fp _ Q hB R hf fun r ρ' v G' H' fp' fr n ot t1 t2 q => ?_⟩
  obtain ⟨n', rq⟩ := Nxt.sealed R n ot t1 t2
  exact k _ _ _ _ _ _ n' rq q
theorem ve {fv : FV} (h : PDv X io e fv) : PDe X io e (vE fv) := by
  obtain ⟨te, h1, h2⟩ := h
  exact ⟨te, h1, fun B G H σ ρ fp Qd Q hB R hf k => h2 B G H σ ρ fp _ Q hB R hf fun d ρ' v G' H' fp' n rq q => k _ _ _ _ _ _ [] n (.dat rq) (fun _ z => nomatch z) (fun _ z => nomatch z) q⟩
theorem vo {fv : FV} (h : PDv X io e fv) : PDo X io e (vO fv) := by
  obtain ⟨te, h1, h2⟩ := h
  exact ⟨te, h1, fun B G H σ ρ fp Qd Q hB R hf k => h2 B G H σ ρ fp _ Q hB R hf fun d ρ' v G' H' fp' n rq q => k (.d d) _ _ _ _ _ n rq q⟩
/-! names -/
@[simp] def fVar (i : Nat) : FV := fun ρ Q => ∃ d, ρ[i]? = some (some (.dat d)) ∧ Q d ρ
@[simp] def fRef (i : Nat) : FO := fun ρ Q => (∃ t, ρ[i]? = some (some t)) ∧ Q (.r i) ρ
theorem n_v {te : TE} (i : Nat) (h : PE X e te) (ht : te = tVar i) : PDv X io e (fVar i) := by
  subst ht
  refine ⟨_, h, fun B G H σ ρ fp Qd Q hB R hf k => ?_⟩
  obtain ⟨d, e1, q⟩ := hf
  obtain ⟨v, e2, ot⟩ := R.co.slot i _ e1
  exact ⟨v, e2, k d ρ v G H fp (Nxt.refl R) ot.dat_inv.1 q⟩
theorem n_o {te : TE} (i : Nat) (h : PE X e te) (ht : te = tVar i) : PDo X io e (fRef i) := by
  subst ht
  refine ⟨_, h, fun B G H σ ρ fp Qd Q hB R hf k => ?_⟩
  obtain ⟨⟨t, e1⟩, q⟩ := hf
  obtain ⟨v, e2, ot⟩ := R.co.slot i _ e1
  exact ⟨v, e2, k (.r i) ρ v G H fp (Nxt.refl R) e2 q⟩
/-- the slot's tree leaves the slot -/
@[simp] def fMove (io : List Nat) (i : Nat) : FE := fun ρ Q => ∃ t, ρ[i]? = some (some t) ∧ i ∉ io ∧ Q t (ρ.set i none)
theorem set_none_ne {ρ : Rho} {i j : Nat} {t : SV} (h : (ρ.set i none)[j]? = some (some t)) : j ≠ i ∧ ρ[j]? = some (some t) := by
  by_cases e : j = i
  · subst e
    rw [List.getElem?_set] at h
    simp at h
  · rw [List.getElem?_set_ne (Ne.symm e)] at h
    exact ⟨e, h⟩
theorem Rp.drop {K : PySem.W.Frag} {B : Bs} {G H : Hp} {σ : L2.St} {ρ : Rho} {fp : Nat → List Addr} (R : Rp K B G H σ ρ fp) (i : Nat) (hi : i ∉ B.io) : Rp K B G H σ (ρ.set i none) (fun j => if j = i then [] else fp j) := by
  refine ⟨⟨by rw [List.length_set]; exact R.co.len, R.co.sub, fun j t h => ?_, fun j h => ?_, fun j l a h1 h2 => ?_⟩, R.stp, fun a h => ?_, fun j m => ?_, R.lo⟩
  · obtain ⟨ne, h⟩ := set_none_ne h
    simp only [if_neg ne]
    exact R.co.slot j t h
  · by_cases e : j = i
    · exact if_pos e
    · simp only [if_neg e]
      exact R.co.nil j fun t q => h t (by rw [List.getElem?_set_ne (Ne.symm e)]; exact q)
  · by_cases e1 : j = i
    · simp [e1] at h1
    · by_cases e2 : l = i
      · simp [e2] at h2
      · simp only [if_neg e1] at h1
        simp only [if_neg e2] at h2
        exact R.co.dis j l a h1 h2
  · obtain ⟨j, m⟩ := h
    by_cases e1 : j = i
    · simp [e1] at m
    · simp only [if_neg e1] at m
      exact R.own a ⟨j, m⟩
  · obtain ⟨v, t, h1, h2, h3⟩ := R.io j m
    exact ⟨v, t, h1, h2, by rw [List.getElem?_set_ne (fun e : i = j => hi (e.symm ▸ m))]; exact h3⟩
theorem n_mv {te : TE} (i : Nat) (h : PE X e te) (ht : te = tVar i) : PDe X io e (fMove io i) := by
  subst ht
  refine ⟨_, h, fun B G H σ ρ fp Qd Q hB R hf k => ?_⟩
  obtain ⟨t, e1, ni, q⟩ := hf
  obtain ⟨v, e2, ot⟩ := R.co.slot i _ e1
  have inn : ∀ a, In (fun j => if j = i then [] else fp j) a → In fp a := fun a ⟨j, m⟩ => by
    by_cases e1 : j = i
    · simp [e1] at m
    · simp only [if_neg e1] at m
      exact ⟨j, m⟩
  refine ⟨v, e2, k t _ v G H _ (fp i) ⟨R.drop i (by rw [hB]; exact ni), Stp.refl G H, fun a h => .inl (inn a h)⟩ ot (fun a m ⟨j, m'⟩ => ?_) (fun a m => .inr ⟨i, m⟩) q⟩
  by_cases e1 : j = i
  · simp [e1] at m'
  · simp only [if_neg e1] at m'
    exact e1 (R.co.dis j i a m' m)
end
end DL

namespace DL
open PySem PySem.Spec PyProof.Rows L2

/-- a value told by itself -/
inductive Lit : V → DD → Prop
  | non : Lit .non .non
  | bl (b : Bool) : Lit (.bl b) (.bl b)
  | int (i : Int) : Lit (.int i) (.int i)
  | str (x : Str) : Lit (.str x) (.str x)
theorem Lit.rq {K : PySem.W.Frag} {G : Hp} {v : V} {d : DD} (h : Lit v d) : Rq K G v d := by
  cases h
  · exact .non
  · exact .bl _
  · exact .int _
  · exact .str _
section
variable {K : PySem.W.Frag} {B : Bs} {σ : L2.St} {G H G' H' : Hp} {ρ ρ' : Rho} {fp fp' : Nat → List Addr} {v : V} {o : OV}
theorem OVR.next (n : Nxt K B σ G H fp G' H' ρ' fp') (h : OVR K G σ v o) : OVR K G' σ v o := by
  cases o with
  | d x => exact Rq.mono n.st.ex h
  | r i => exact h
/-- what an operand is when it is looked at -/
theorem OVR.tree (R : Rp K B G H σ ρ fp) (h : OVR K G σ v o) {t : SV} (e : resT ρ o = some t) : ∃ f, OT K G H v t f ∧ (∀ a ∈ f, In fp a) := by
  cases o with
  | d x =>
    have : SV.dat x = t := Option.some.inj e
    subst this
    exact ⟨[], .dat h, fun _ z => nomatch z⟩
  | r i =>
    have e' : ρ[i]? = some (some t) := by
      simp only [resT_r] at e
      cases q : ρ[i]? with
      | none => rw [q] at e; cases e
      | some z => rw [q] at e; simp at e; rw [e]
    obtain ⟨u, e1, ot⟩ := R.co.slot i t e'
    have h' : σ[i]? = some (some v) := h
    rw [h'] at e1
    have : v = u := by injection e1 with z; injection z
    subst this
    exact ⟨fp i, ot, fun a m => ⟨i, m⟩⟩
theorem OVR.rqH (R : Rp K B G H σ ρ fp) (h : OVR K G σ v o) {d : DD} (e : resD ρ o = some d) : Rq K H v d := by
  unfold resD at e
  cases q : resT ρ o with
  | none => rw [q] at e; cases e
  | some t =>
    rw [q] at e
    have e' : t.data = d := Option.some.inj e
    obtain ⟨f, ot, _⟩ := h.tree R q
    rw [← e']
    exact ot.sealed R.co.sub fun _ _ _ z => z
end

section
variable {X : Cx} {io : List Nat} {e a b c : Expr} {pos : Pos}
/-! constants -/
@[simp] def fC (d : DD) : FV := fun ρ Q => Q d ρ
theorem c_of {v : V} {d : DD} (h : PE X e (tC v)) (l : Lit v d) : PDv X io e (fC d) :=
  ⟨_, h, fun B G H σ ρ fp Qd Q hB R hf k => k d ρ v G H fp (Nxt.refl R) l.rq hf⟩
theorem c_int {i : Int} {j : Nat} : PDv X io (.Constant (.int i) j pos) (fC (.int i)) := c_of pe_int (.int i)
theorem c_bl {i : Bool} {j : Nat} : PDv X io (.Constant (.bool i) j pos) (fC (.bl i)) := c_of pe_bl (.bl i)
theorem c_str {i : Str} {j : Nat} : PDv X io (.Constant (.str i) j pos) (fC (.str i)) := c_of pe_str (.str i)
theorem c_non {j : Nat} : PDv X io (.Constant .none j pos) (fC .non) := c_of pe_non .non
/-- a constant of the module -/
theorem c_glob {x : Str} {v : V} {d : DD} {u : Value} (hm : X.mg x = some u) (r : RelV v u) (l : Rq X.K (fun _ => none) v d) (hg : Gl X x := by rfl) (hd : (x == ("__debug__" : Str)) = false := by decide) : PDv X io (.Name x pos) (fC d) :=
  ⟨_, pe_glob hg hm r hd, fun B G H σ ρ fp Qd Q hB R hf k => k d ρ v G H fp (Nxt.refl R) (l.mono fun _ _ z => by cases z) hf⟩

/-! operations with a told value -/
def Op2 := DD → DD → (DD → Prop) → Prop
def ScR (K : PySem.W.Frag) (r : R2) (op : Op2) : Prop := ∀ H x y d e (P : DD → Prop) (Q : VK), Rq K H x d → Rq K H y e → op d e P → (∀ z w, P z → Lit w z → Q w H) → r x y H Q
@[simp] def fBin (op : Op2) (fa fb : FO) : FV := fun ρ Q => fa ρ fun x ρ1 => fb ρ1 fun y ρ2 => ∃ d e, resD ρ2 x = some d ∧ resD ρ2 y = some e ∧ op d e fun z => Q z ρ2
theorem dv_op {r : R2} {op : Op2} {ta tb : TE} {fa fb : FO} (hr : ScR X.K r op) (ha : DO X.K io ta fa) (hb : DO X.K io tb fb) : DV X.K io (tOp r ta tb) (fBin op fa fb) := by
  intro B G H σ ρ fp Qd Q hB R hf k
  refine ha B G H σ ρ fp _ _ hB R hf fun x ρ1 v1 G1 H1 fp1 n1 o1 hf => ?_
  refine hb B G1 H1 σ ρ1 fp1 _ _ hB n1.rp hf fun y ρ2 v2 G2 H2 fp2 n2 o2 ⟨d, e, e1, e2, q⟩ => ?_
  exact hr H2 v1 v2 d e _ Q ((o1.next n2).rqH n2.rp e1) (o2.rqH n2.rp e2) q fun z w q l => k z ρ2 w G2 H2 fp2 (n1.trans n2) l.rq q
theorem p_op {op : Operator} {r : R2} {f : Op2} {fa fb : FO} (ho : OpR X (binaryOp op) r) (hr : ScR X.K r f) (ha : PDo X io a fa) (hb : PDo X io b fb) : PDv X io (.BinOp a op b pos) (fBin f fa fb) := by
  obtain ⟨ta, a1, a2⟩ := ha
  obtain ⟨tb, b1, b2⟩ := hb
  exact ⟨_, pe_op ho a1 b1, dv_op hr a2 b2⟩
theorem p_cmp {op : CmpOp} {r : R2} {f : Op2} {fa fb : FO} (ho : OpR X (compareOp op) r) (hr : ScR X.K r f) (hm : behindInMarks op b = false) (ha : PDo X io a fa) (hb : PDo X io b fb) : PDv X io (.Compare a [op] [b] pos) (fBin f fa fb) := by
  obtain ⟨ta, a1, a2⟩ := ha
  obtain ⟨tb, b1, b2⟩ := hb
  exact ⟨_, pe_cmpR ho a1 b1 hm, dv_op hr a2 b2⟩
/-- a value as a test -/
@[simp] def fTst (fv : FV) : FT := fun ρ Q => fv ρ fun d ρ' => ∃ b, d = .bl b ∧ Q b ρ'
theorem Rq.bl_inv {K : PySem.W.Frag} {G : Hp} {v : V} {b : Bool} (h : Rq K G v (.bl b)) : v = .bl b := by cases h; rfl
theorem Rq.int_inv {K : PySem.W.Frag} {G : Hp} {v : V} {b : Int} (h : Rq K G v (.int b)) : v = .int b := by cases h; rfl
theorem Rq.str_inv {K : PySem.W.Frag} {G : Hp} {v : V} {b : Str} (h : Rq K G v (.str b)) : v = .str b := by cases h; rfl
theorem Rq.non_inv {K : PySem.W.Frag} {G : Hp} {v : V} (h : Rq K G v .non) : v = .non := by cases h; rfl
theorem Rq.opq_inv {K : PySem.W.Frag} {G : Hp} {v w : V} (h : Rq K G v (.opq w)) : v = w := by cases h; rfl
theorem Rq.lst_inv {K : PySem.W.Frag} {G : Hp} {v : V} {ds : List DD} (h : Rq K G v (.lst ds)) : ∃ a xs, v = .ref a ∧ Rd G a (.lst xs) ∧ RqA K G xs ds := by cases h with | lst h r => exact ⟨_, _, rfl, h, r⟩
theorem Rq.tup_inv {K : PySem.W.Frag} {G : Hp} {v : V} {ds : List DD} (h : Rq K G v (.tup ds)) : ∃ a xs, v = .ref a ∧ SqT K G a xs ∧ RqA K G xs ds := by cases h with | tup h r => exact ⟨_, _, rfl, h, r⟩
theorem Rq.obj_inv {K : PySem.W.Frag} {G : Hp} {v : V} {C : Addr} {ds : List (Str × DD)} (h : Rq K G v (.obj C ds)) : ∃ a dx fs, v = .ref a ∧ G a = some (.ins C dx fs) ∧ RqF K G fs ds := by cases h with | obj h r => exact ⟨_, _, _, rfl, h, r⟩
theorem dt_B {te : TE} {fv : FV} (h : DV X.K io te fv) : DT X.K io (tB te) (fTst fv) := by
  intro B G H σ ρ fp Qd Q hB R hf k
  refine h B G H σ ρ fp _ _ hB R hf fun d ρ' v G' H' fp' n r ⟨b, e, q⟩ => ?_
  subst e
  exact ⟨b, r.bl_inv, k b ρ' G' H' fp' n q⟩
theorem dt_T {te : TE} {fv : FV} (h : DV X.K io te fv) : DT X.K io (tTest te) (fTst fv) := by
  intro B G H σ ρ fp Qd Q hB R hf k
  refine h B G H σ ρ fp _ _ hB R hf fun d ρ' v G' H' fp' n r ⟨b, e, q⟩ => ?_
  subst e
  exact ⟨b, r.bl_inv, k b ρ' G' H' fp' n q⟩
theorem t_cmp {op : CmpOp} {r : R2} {f : Op2} {fa fb : FO} (ho : OpR X (compareOp op) r) (hr : ScR X.K r f) (hm : behindInMarks op b = false) (ha : PDo X io a fa) (hb : PDo X io b fb) : PDt X io (.Compare a [op] [b] pos) (fTst (fBin f fa fb)) := by
  obtain ⟨ta, a1, a2⟩ := ha
  obtain ⟨tb, b1, b2⟩ := hb
  exact ⟨_, pt_cmpR ho a1 b1 hm, dt_T (dv_op hr a2 b2)⟩
theorem t_val {fv : FV} (h : PDv X io e fv) (he : ∀ whole, isTrue e X.env whole = (do let v ← whole; standAt e.pos; holding [v] (truthy v)) := by intro _; rfl) : PDt X io e (fTst fv) := by
  obtain ⟨te, h1, h2⟩ := h
  exact ⟨_, pt_val h1 he, dt_B h2⟩
/-! and, or, not -/
structure PDw (X : Cx) (io : List Nat) (e : Expr) (ft : FT) : Prop where
  h : ∃ tt, PW X e tt ∧ DT X.K io tt ft
@[simp] def fAnd (f g : FT) : FT := fun ρ Q => f ρ fun c ρ1 => if c = true then g ρ1 Q else Q false ρ1
@[simp] def fOr (f g : FT) : FT := fun ρ Q => f ρ fun c ρ1 => if c = true then Q true ρ1 else g ρ1 Q
@[simp] def fNot (f : FT) : FT := fun ρ Q => f ρ fun c ρ1 => Q (!c) ρ1
variable {rest : List Expr} {f g : FT}
theorem w_and1 (h : PDt X io a f) : PDw X io (.BoolOp .And [a] pos) f := let ⟨_, h1, h2⟩ := h; ⟨_, pw_and1 h1, h2⟩
theorem w_or1 (h : PDt X io a f) : PDw X io (.BoolOp .Or [a] pos) f := let ⟨_, h1, h2⟩ := h; ⟨_, pw_or1 h1, h2⟩
theorem dt_and {t u : TT} (h1 : DT X.K io t f) (h2 : DT X.K io u g) : DT X.K io (tAnd t u) (fAnd f g) := by
  intro B G H σ ρ fp Qd Q hB R hf k
  refine h1 B G H σ ρ fp _ _ hB R hf fun c ρ1 G1 H1 fp1 n1 q => ?_
  cases c with
  | true => exact h2 B G1 H1 σ ρ1 fp1 Qd Q hB n1.rp q fun b ρ2 G2 H2 fp2 n2 q => k b ρ2 G2 H2 fp2 (n1.trans n2) q
  | false => exact k false ρ1 G1 H1 fp1 n1 q
theorem dt_or {t u : TT} (h1 : DT X.K io t f) (h2 : DT X.K io u g) : DT X.K io (tOr t u) (fOr f g) := by
  intro B G H σ ρ fp Qd Q hB R hf k
  refine h1 B G H σ ρ fp _ _ hB R hf fun c ρ1 G1 H1 fp1 n1 q => ?_
  cases c with
  | true => exact k true ρ1 G1 H1 fp1 n1 q
  | false => exact h2 B G1 H1 σ ρ1 fp1 Qd Q hB n1.rp q fun b ρ2 G2 H2 fp2 n2 q => k b ρ2 G2 H2 fp2 (n1.trans n2) q
theorem w_and (h1 : PDt X io a f) (h2 : PDw X io (.BoolOp .And (b :: rest) pos) g) : PDw X io (.BoolOp .And (a :: b :: rest) pos) (fAnd f g) := by
  obtain ⟨_, a1, a2⟩ := h1
  obtain ⟨_, b1, b2⟩ := h2.h
  exact ⟨_, pw_and a1 b1, dt_and a2 b2⟩
theorem w_or (h1 : PDt X io a f) (h2 : PDw X io (.BoolOp .Or (b :: rest) pos) g) : PDw X io (.BoolOp .Or (a :: b :: rest) pos) (fOr f g) := by
  obtain ⟨_, a1, a2⟩ := h1
  obtain ⟨_, b1, b2⟩ := h2.h
  exact ⟨_, pw_or a1 b1, dt_or a2 b2⟩
theorem t_w (h : PDw X io e f) : PDt X io e f := let ⟨_, h1, h2⟩ := h.h; ⟨_, h1.pt, h2⟩
theorem t_not (h : PDt X io a f) : PDt X io (.UnaryOp .Not a pos) (fNot f) := by
  obtain ⟨_, h1, h2⟩ := h
  exact ⟨_, pt_not h1, fun B G H σ ρ fp Qd Q hB R hf k => h2 B G H σ ρ fp _ _ hB R hf fun b ρ' G' H' fp' n q => k (!b) ρ' G' H' fp' n q⟩
/-- .. as values: all bools -/
@[simp] def fAndV (fa fb : FV) : FV := fun ρ Q => fa ρ fun d ρ1 => ∃ c, d = .bl c ∧ if c = true then fb ρ1 Q else Q (.bl false) ρ1
@[simp] def fOrV (fa fb : FV) : FV := fun ρ Q => fa ρ fun d ρ1 => ∃ c, d = .bl c ∧ if c = true then Q (.bl true) ρ1 else fb ρ1 Q
@[simp] def fNotV (fa : FV) : FV := fun ρ Q => fa ρ fun d ρ1 => ∃ c, d = .bl c ∧ Q (.bl (!c)) ρ1
variable {fa fb : FV}
theorem v_one {op : BoolOp} (h : PDv X io a fa) : PDv X io (.BoolOp op [a] pos) fa := let ⟨_, h1, h2⟩ := h; ⟨_, pe_one h1, h2⟩
theorem v_and (h1 : PDv X io a fa) (h2 : PDv X io (.BoolOp .And (b :: rest) pos) fb) : PDv X io (.BoolOp .And (a :: b :: rest) pos) (fAndV fa fb) := by
  obtain ⟨_, a1, a2⟩ := h1
  obtain ⟨_, b1, b2⟩ := h2
  refine ⟨_, pe_and a1 b1, fun B G H σ ρ fp Qd Q hB R hf k => ?_⟩
  refine a2 B G H σ ρ fp _ _ hB R hf fun d ρ1 v G1 H1 fp1 n1 r ⟨c, e, q⟩ => ?_
  subst e
  refine ⟨c, r.bl_inv, ?_⟩
  cases c with
  | true => exact b2 B G1 H1 σ ρ1 fp1 Qd Q hB n1.rp q fun d ρ2 v G2 H2 fp2 n2 r q => k d ρ2 v G2 H2 fp2 (n1.trans n2) r q
  | false => exact k _ ρ1 _ G1 H1 fp1 n1 (.bl false) q
theorem v_or (h1 : PDv X io a fa) (h2 : PDv X io (.BoolOp .Or (b :: rest) pos) fb) : PDv X io (.BoolOp .Or (a :: b :: rest) pos) (fOrV fa fb) := by
  obtain ⟨_, a1, a2⟩ := h1
  obtain ⟨_, b1, b2⟩ := h2
  refine ⟨_, pe_or a1 b1, fun B G H σ ρ fp Qd Q hB R hf k => ?_⟩
  refine a2 B G H σ ρ fp _ _ hB R hf fun d ρ1 v G1 H1 fp1 n1 r ⟨c, e, q⟩ => ?_
  subst e
  refine ⟨c, r.bl_inv, ?_⟩
  cases c with
  | true => exact k _ ρ1 _ G1 H1 fp1 n1 (.bl true) q
  | false => exact b2 B G1 H1 σ ρ1 fp1 Qd Q hB n1.rp q fun d ρ2 v G2 H2 fp2 n2 r q => k d ρ2 v G2 H2 fp2 (n1.trans n2) r q
theorem v_not (h : PDv X io a fa) : PDv X io (.UnaryOp .Not a pos) (fNotV fa) := by
  obtain ⟨_, h1, h2⟩ := h
  refine ⟨_, pe_not h1, fun B G H σ ρ fp Qd Q hB R hf k => ?_⟩
  refine h2 B G H σ ρ fp _ _ hB R hf fun d ρ' v G' H' fp' n r ⟨c, e, q⟩ => ?_
  subst e
  exact ⟨c, r.bl_inv, k _ ρ' _ G' H' fp' n (.bl _) q⟩
/-- a if t else b -/
@[simp] def fIfE (ft : FT) (fa fb : FE) : FE := fun ρ Q => ft ρ fun c ρ1 => if c = true then fa ρ1 Q else fb ρ1 Q
theorem e_if {ft : FT} {fa fb : FE} (hc : PDt X io c ft) (ha : PDe X io a fa) (hb : PDe X io b fb) : PDe X io (.IfExp c a b pos) (fIfE ft fa fb) := by
  obtain ⟨_, c1, c2⟩ := hc
  obtain ⟨_, a1, a2⟩ := ha
  obtain ⟨_, b1, b2⟩ := hb
  refine ⟨_, pe_ifExp c1 a1 b1, fun B G H σ ρ fp Qd Q hB R hf k => ?_⟩
  refine c2 B G H σ ρ fp _ _ hB R hf fun c ρ1 G1 H1 fp1 n1 q => ?_
  have back : ∀ {fr : List Addr}, (∀ a ∈ fr, H1 a = none ∨ In fp1 a) → ∀ a ∈ fr, H a = none ∨ In fp a := fun h a m => (h a m).elim (fun z => by
    by_cases q : In fp a
    · exact .inr q
    · exact .inl (n1.st.fresh q z)) fun z => (n1.inn a z).symm
  cases c with
  | true => exact a2 B G1 H1 σ ρ1 fp1 _ Q hB n1.rp q fun r ρ2 v G2 H2 fp2 fr n2 ot t1 t2 q => k r ρ2 v G2 H2 fp2 fr (n1.trans n2) ot t1 (back t2) q
  | false => exact b2 B G1 H1 σ ρ1 fp1 _ Q hB n1.rp q fun r ρ2 v G2 H2 fp2 fr n2 ot t1 t2 q => k r ρ2 v G2 H2 fp2 fr (n1.trans n2) ot t1 (back t2) q
end
end DL

namespace DL
open PySem PySem.Spec PyProof.Rows L2
section
variable {X : Cx} {io : List Nat} {e a b c : Expr} {pos : Pos} {K : PySem.W.Frag}
/-! ints -/
@[simp] def opI (C : Int → Int → Prop) (g : Int → Int → DD) : Op2 := fun d e P => ∃ i j, d = .int i ∧ e = .int j ∧ C i j ∧ P (g i j)
@[simp] def opI0 (g : Int → Int → DD) : Op2 := fun d e P => ∃ i j, d = .int i ∧ e = .int j ∧ P (g i j)
theorem sc_I {C : Int → Int → Prop} {g : Int → Int → Int} : ScR K (rI C fun i j => .int (g i j)) (opI C fun i j => .int (g i j)) := fun H x y d e P Q hx hy h k => by
  obtain ⟨i, j, rfl, rfl, hc, p⟩ := h
  exact ⟨i, j, hx.int_inv, hy.int_inv, hc, k _ _ p (.int _)⟩
theorem sc_I0 {g : Int → Int → Int} : ScR K (rI0 fun i j => .int (g i j)) (opI0 fun i j => .int (g i j)) := fun H x y d e P Q hx hy h k => by
  obtain ⟨i, j, rfl, rfl, p⟩ := h
  exact ⟨i, j, hx.int_inv, hy.int_inv, k _ _ p (.int _)⟩
theorem sc_B0 {g : Int → Int → Bool} : ScR K (rI0 fun i j => .bl (g i j)) (opI0 fun i j => .bl (g i j)) := fun H x y d e P Q hx hy h k => by
  obtain ⟨i, j, rfl, rfl, p⟩ := h
  exact ⟨i, j, hx.int_inv, hy.int_inv, k _ _ p (.bl _)⟩
variable {fa fb : FO}
abbrev oAdd : Op2 := opI0 fun i j => .int (i + j)
abbrev oSub : Op2 := opI0 fun i j => .int (i - j)
abbrev oMul : Op2 := opI IntMulOk fun i j => .int (i * j)
abbrev oDiv : Op2 := opI (fun i j => j ≠ 0 ∧ Builtin.divisionGoesByPylong i j = false) fun i j => .int (i.fdiv j)
abbrev oMod : Op2 := opI (fun _ j => j ≠ 0) fun i j => .int (i.fmod j)
abbrev oPow : Op2 := opI (fun i j => 0 ≤ j ∧ (Builtin.Int.intBits i : Int) * j ≤ 2 ^ 27) fun i j => .int (i ^ j.toNat)
abbrev oLt : Op2 := opI0 fun i j => .bl (decide (i < j))
abbrev oLe : Op2 := opI0 fun i j => .bl (decide (i ≤ j))
abbrev oGt : Op2 := opI0 fun i j => .bl (decide (j < i))
abbrev oGe : Op2 := opI0 fun i j => .bl (decide (j ≤ i))
abbrev oEqI : Op2 := opI0 fun i j => .bl (decide (i = j))
abbrev oNeI : Op2 := opI0 fun i j => .bl (!decide (i = j))
theorem p_add (ha : PDo X io a fa) (hb : PDo X io b fb) : PDv X io (.BinOp a .Add b pos) (fBin oAdd fa fb) := p_op op_add sc_I0 ha hb
theorem p_sub (ha : PDo X io a fa) (hb : PDo X io b fb) : PDv X io (.BinOp a .Sub b pos) (fBin oSub fa fb) := p_op op_sub sc_I0 ha hb
theorem p_mul (ha : PDo X io a fa) (hb : PDo X io b fb) : PDv X io (.BinOp a .Mult b pos) (fBin oMul fa fb) := p_op (L2.opI fun _ _ _ _ _ _ _ hc q => mul_int q hc) sc_I ha hb
theorem p_div (ha : PDo X io a fa) (hb : PDo X io b fb) : PDv X io (.BinOp a .FloorDiv b pos) (fBin oDiv fa fb) := p_op (L2.opI fun _ _ _ _ _ _ _ hc q => floordiv_int hc.1 q (.inl hc.2)) sc_I ha hb
theorem p_mod (ha : PDo X io a fa) (hb : PDo X io b fb) : PDv X io (.BinOp a .Mod b pos) (fBin oMod fa fb) := p_op op_modN sc_I ha hb
theorem p_pow (ha : PDo X io a fa) (hb : PDo X io b fb) : PDv X io (.BinOp a .Pow b pos) (fBin oPow fa fb) := p_op (L2.opI fun _ _ _ _ _ _ _ hc q => pow_int hc.1 hc.2 q) sc_I ha hb
theorem p_lt (ha : PDo X io a fa) (hb : PDo X io b fb) : PDv X io (.Compare a [.Lt] [b] pos) (fBin oLt fa fb) := p_cmp op_lt sc_B0 (nomark _) ha hb
theorem p_le (ha : PDo X io a fa) (hb : PDo X io b fb) : PDv X io (.Compare a [.LtE] [b] pos) (fBin oLe fa fb) := p_cmp op_le sc_B0 (nomark _) ha hb
theorem p_gt (ha : PDo X io a fa) (hb : PDo X io b fb) : PDv X io (.Compare a [.Gt] [b] pos) (fBin oGt fa fb) := p_cmp op_gt sc_B0 (nomark _) ha hb
theorem p_ge (ha : PDo X io a fa) (hb : PDo X io b fb) : PDv X io (.Compare a [.GtE] [b] pos) (fBin oGe fa fb) := p_cmp op_ge sc_B0 (nomark _) ha hb
theorem q_lt (ha : PDo X io a fa) (hb : PDo X io b fb) : PDt X io (.Compare a [.Lt] [b] pos) (fTst (fBin oLt fa fb)) := t_cmp op_lt sc_B0 (nomark _) ha hb
theorem q_le (ha : PDo X io a fa) (hb : PDo X io b fb) : PDt X io (.Compare a [.LtE] [b] pos) (fTst (fBin oLe fa fb)) := t_cmp op_le sc_B0 (nomark _) ha hb
theorem q_gt (ha : PDo X io a fa) (hb : PDo X io b fb) : PDt X io (.Compare a [.Gt] [b] pos) (fTst (fBin oGt fa fb)) := t_cmp op_gt sc_B0 (nomark _) ha hb
theorem q_ge (ha : PDo X io a fa) (hb : PDo X io b fb) : PDt X io (.Compare a [.GtE] [b] pos) (fTst (fBin oGe fa fb)) := t_cmp op_ge sc_B0 (nomark _) ha hb

/-! == of data -/
/-- == of data -/
def eqD (d e : DD) : Bool := PyData.eqv d.py e.py
def okD (d : DD) : Bool := d.pure && SeqAt.shaped d.py
@[simp] def oEq : Op2 := fun d e P => okD d = true ∧ okD e = true ∧ P (.bl (eqD d e))
@[simp] def oNe : Op2 := fun d e P => okD d = true ∧ okD e = true ∧ P (.bl (!eqD d e))
theorem okD_of {d : DD} (h : okD d = true) : d.pure = true ∧ SeqAt.shaped d.py = true := Bool.and_eq_true_iff.mp h
theorem sc_eq : ScR K (rEqD K) oEq := fun H x y d e P Q hx hy h k => by
  obtain ⟨h1, h2, p⟩ := h
  exact ⟨_, _, hx.dp (okD_of h1).1, hy.dp (okD_of h2).1, (okD_of h1).2, (okD_of h2).2, k _ _ p (.bl _)⟩
theorem sc_ne : ScR K (rNeD K) oNe := fun H x y d e P Q hx hy h k => by
  obtain ⟨h1, h2, p⟩ := h
  exact ⟨_, _, hx.dp (okD_of h1).1, hy.dp (okD_of h2).1, (okD_of h1).2, (okD_of h2).2, k _ _ p (.bl _)⟩
theorem p_eq {k : Nat} (hr : Room k X.A) (ha : PDo X io a fa) (hb : PDo X io b fb) : PDv X io (.Compare a [.Eq] [b] pos) (fBin oEq fa fb) := p_cmp (op_eqD hr.units) sc_eq (nomark _) ha hb
theorem p_ne {k : Nat} (hr : Room k X.A) (ha : PDo X io a fa) (hb : PDo X io b fb) : PDv X io (.Compare a [.NotEq] [b] pos) (fBin oNe fa fb) := p_cmp (op_neD hr.units) sc_ne (nomark _) ha hb
theorem q_eq {k : Nat} (hr : Room k X.A) (ha : PDo X io a fa) (hb : PDo X io b fb) : PDt X io (.Compare a [.Eq] [b] pos) (fTst (fBin oEq fa fb)) := t_cmp (op_eqD hr.units) sc_eq (nomark _) ha hb
theorem q_ne {k : Nat} (hr : Room k X.A) (ha : PDo X io a fa) (hb : PDo X io b fb) : PDt X io (.Compare a [.NotEq] [b] pos) (fTst (fBin oNe fa fb)) := t_cmp (op_neD hr.units) sc_ne (nomark _) ha hb
/-! is None -/
def isN : DD → Bool
  | .non => true
  | _ => false
/-- (an opaque value might be None) -/
def tld : DD → Bool
  | .opq _ => false
  | .at_ _ _ => false
  | _ => true
@[simp] def oIsN : Op2 := fun d e P => e = .non ∧ tld d = true ∧ P (.bl (isN d))
@[simp] def oNotN : Op2 := fun d e P => e = .non ∧ tld d = true ∧ P (.bl (!isN d))
theorem isN_of {G : Hp} {x : V} {d : DD} (h : Rq K G x d) (t : tld d = true) : decide (x = .non) = isN d := by
  cases h <;> first | rfl | (simp [isN]; done) | cases t
theorem sc_isN : ScR K (fun x y H Q => y = .non ∧ Q (.bl (decide (x = .non))) H) oIsN := fun H x y d e P Q hx hy h k => by
  obtain ⟨rfl, t, p⟩ := h
  exact ⟨hy.non_inv, by rw [isN_of hx t]; exact k _ _ p (.bl _)⟩
theorem sc_notN : ScR K (fun x y H Q => y = .non ∧ Q (.bl (!decide (x = .non))) H) oNotN := fun H x y d e P Q hx hy h k => by
  obtain ⟨rfl, t, p⟩ := h
  exact ⟨hy.non_inv, by rw [isN_of hx t]; exact k _ _ p (.bl _)⟩
theorem p_isN (ha : PDo X io a fa) (hb : PDo X io b fb) : PDv X io (.Compare a [.Is] [b] pos) (fBin oIsN fa fb) := p_cmp op_isN sc_isN (nomark _) ha hb
theorem p_notN (ha : PDo X io a fa) (hb : PDo X io b fb) : PDv X io (.Compare a [.IsNot] [b] pos) (fBin oNotN fa fb) := p_cmp op_notN sc_notN (nomark _) ha hb
theorem q_isN (ha : PDo X io a fa) (hb : PDo X io b fb) : PDt X io (.Compare a [.Is] [b] pos) (fTst (fBin oIsN fa fb)) := t_cmp op_isN sc_isN (nomark _) ha hb
theorem q_notN (ha : PDo X io a fa) (hb : PDo X io b fb) : PDt X io (.Compare a [.IsNot] [b] pos) (fTst (fBin oNotN fa fb)) := t_cmp op_notN sc_notN (nomark _) ha hb
/-! - -/
def Op1 := DD → (DD → Prop) → Prop
def ScU (K : PySem.W.Frag) (r : V → Hp → VK → Prop) (op : Op1) : Prop := ∀ H x d (P : DD → Prop) (Q : VK), Rq K H x d → op d P → (∀ z w, P z → Lit w z → Q w H) → r x H Q
@[simp] def fUn (op : Op1) (fa : FO) : FV := fun ρ Q => fa ρ fun x ρ1 => ∃ d, resD ρ1 x = some d ∧ op d fun z => Q z ρ1
theorem dv_un {r : V → Hp → VK → Prop} {op : Op1} {ta : TE} (hr : ScU X.K r op) (ha : DO X.K io ta fa) : DV X.K io (tUn r ta) (fUn op fa) := by
  intro B G H σ ρ fp Qd Q hB R hf k
  refine ha B G H σ ρ fp _ _ hB R hf fun x ρ1 v1 G1 H1 fp1 n1 o1 ⟨d, e1, q⟩ => ?_
  exact hr H1 v1 d _ Q (o1.rqH n1.rp e1) q fun z w q l => k z ρ1 w G1 H1 fp1 n1 l.rq q
@[simp] def oNeg : Op1 := fun d P => ∃ i, d = .int i ∧ P (.int (-i))
theorem p_neg (ha : PDo X io a fa) : PDv X io (.UnaryOp .USub a pos) (fUn oNeg fa) := by
  obtain ⟨ta, a1, a2⟩ := ha
  refine ⟨_, pe_un un_neg a1, dv_un (fun H x d P Q hx h k => ?_) a2⟩
  obtain ⟨i, rfl, p⟩ := h
  exact ⟨i, hx.int_inv, k _ _ p (.int _)⟩
/-! chains a < b < c -/
def fChain (op op' : Op2) (fa fb fc : FO) : FV := fun ρ Q => fa ρ fun x ρ1 => fb ρ1 fun y ρ2 => ∃ d e, resD ρ2 x = some d ∧ resD ρ2 y = some e ∧ op d e fun z => ∃ k, z = .bl k ∧
  if k = true then fc ρ2 fun w ρ3 => ∃ e' g, resD ρ3 y = some e' ∧ resD ρ3 w = some g ∧ op' e' g fun z => Q z ρ3 else Q (.bl false) ρ2

/-! arguments of built-ins -/
abbrev FOs := Rho → (List OV → Rho → Prop) → Prop
def DOs (K : PySem.W.Frag) (io : List Nat) (ta : TA) (fos : FOs) : Prop := ∀ (B : Bs) G H σ ρ fp (Qd : List OV → Rho → Prop) (Q : List V → Hp → Prop), B.io = io → Rp K B G H σ ρ fp → fos ρ Qd →
  (∀ os ρ' vs G' H' fp', Nxt K B σ G H fp G' H' ρ' fp' → Paired (OVR K G' σ) vs os → Qd os ρ' → Q vs H') → ta σ H Q
def PDos (X : Cx) (io : List Nat) (es : List Expr) (fos : FOs) : Prop := ∃ ta, PA X es ta ∧ DOs X.K io ta fos
@[simp] def fNil : FOs := fun ρ Q => Q [] ρ
@[simp] def fCons (fa : FO) (fr : FOs) : FOs := fun ρ Q => fa ρ fun x ρ1 => fr ρ1 fun xs ρ2 => Q (x :: xs) ρ2
theorem os_nil : PDos X io [] fNil := ⟨_, pa_nil, fun B G H σ ρ fp Qd Q hB R hf k => k [] ρ [] G H fp (Nxt.refl R) .nil hf⟩
theorem os_cons {es : List Expr} {fr : FOs} (ha : PDo X io e fa) (hr : PDos X io es fr) (hs : starEach (e :: es) X.env = (false, eval e X.env) :: starEach es X.env := by rfl) : PDos X io (e :: es) (fCons fa fr) := by
  obtain ⟨_, a1, a2⟩ := ha
  obtain ⟨_, b1, b2⟩ := hr
  refine ⟨_, pa_cons a1 b1 hs, fun B G H σ ρ fp Qd Q hB R hf k => ?_⟩
  refine a2 B G H σ ρ fp _ _ hB R hf fun x ρ1 v1 G1 H1 fp1 n1 o1 hf => ?_
  refine b2 B G1 H1 σ ρ1 fp1 _ _ hB n1.rp hf fun xs ρ2 vs G2 H2 fp2 n2 os q => ?_
  exact k _ ρ2 _ G2 H2 fp2 (n1.trans n2) (.cons (o1.next n2) os) q
@[simp] def resDs (ρ : Rho) : List OV → Option (List DD)
  | [] => some []
  | o :: r => match resD ρ o, resDs ρ r with
    | some d, some ds => some (d :: ds)
    | _, _ => none
theorem Paired.rqH {B : Bs} {σ : L2.St} {G H : Hp} {ρ : Rho} {fp : Nat → List Addr} (R : Rp K B G H σ ρ fp) : ∀ {vs : List V} {os : List OV} {ds : List DD}, Paired (OVR K G σ) vs os → resDs ρ os = some ds → RqA K H vs ds
  | _, _, _, .nil, e => by
    have : [] = _ := Option.some.inj e
    subst this
    exact .nil
  | _, _, _, .cons (b := o) (l₂ := os) r t, e => by
    unfold resDs at e
    cases q1 : resD ρ o with
    | none => rw [q1] at e; cases e
    | some d =>
      cases q2 : resDs ρ os with
      | none => rw [q1, q2] at e; cases e
      | some ds =>
        rw [q1, q2] at e
        have := Option.some.inj e
        subst this
        exact .cons (r.rqH R q1) (Paired.rqH R t q2)
def OpN := List DD → (DD → Prop) → Prop
def ScC (K : PySem.W.Frag) (r : List V → Hp → VK → Prop) (op : OpN) : Prop := ∀ H xs ds (P : DD → Prop) (Q : VK), RqA K H xs ds → op ds P → (∀ z w, P z → Lit w z → Q w H) → r xs H Q
@[simp] def fCB (op : OpN) (fos : FOs) : FV := fun ρ Q => fos ρ fun os ρ1 => ∃ ds, resDs ρ1 os = some ds ∧ op ds fun z => Q z ρ1
theorem dv_cb {r : List V → Hp → VK → Prop} {op : OpN} {ta : TA} {fos : FOs} (hr : ScC X.K r op) (ha : DOs X.K io ta fos) : DV X.K io (tCB r ta) (fCB op fos) := by
  intro B G H σ ρ fp Qd Q hB R hf k
  refine ha B G H σ ρ fp _ _ hB R hf fun os ρ1 vs G1 H1 fp1 n1 o1 ⟨ds, e1, q⟩ => ?_
  exact hr H1 vs ds _ Q (Paired.rqH n1.rp o1 e1) q fun z w q l => k z ρ1 w G1 H1 fp1 n1 l.rq q
section
variable {x : Str} {p : Pos} {es : List Expr} {fos : FOs} {id T : String} {r : List V → Hp → VK → Prop} {op : OpN}
theorem p_cb (hc : CallR X (.builtin id) r) (hs : ScC X.K r op) (hm : X.mg x = none) (hv : bootBuiltins x = some (.builtin id)) (ha : PDos X io (e :: es) fos) (hg : Gl X x := by rfl) (hn : x ≠ "__name__" := by decide) (hdb : (x == ("__debug__" : Str)) = false := by decide)
    (he : starEach (e :: es) X.env = (false, eval e X.env) :: starEach es X.env := by rfl) (hpl : (backTo pos (starEach es X.env)).any (·.1) = false := by rfl) : PDv X io (.Call (.Name x p) (e :: es) [] pos) (fCB op fos) := by
  obtain ⟨_, a1, a2⟩ := ha
  exact ⟨_, pe_callB hc hg hm hv a1 hn hdb he hpl, dv_cb hs a2⟩
theorem p_ct (hc : CallR X (.type T) r) (hs : ScC X.K r op) (hm : X.mg x = none) (hv : bootBuiltins x = some (.type T)) (ha : PDos X io (e :: es) fos) (hg : Gl X x := by rfl) (hn : x ≠ "__name__" := by decide) (hdb : (x == ("__debug__" : Str)) = false := by decide)
    (he : starEach (e :: es) X.env = (false, eval e X.env) :: starEach es X.env := by rfl) (hpl : (backTo pos (starEach es X.env)).any (·.1) = false := by rfl) : PDv X io (.Call (.Name x p) (e :: es) [] pos) (fCB op fos) := by
  obtain ⟨_, a1, a2⟩ := ha
  exact ⟨_, pe_callTy hc hg hm hv a1 hn hdb he hpl, dv_cb hs a2⟩
end
theorem RqA.one {G : Hp} {xs : List V} {d : DD} (h : RqA K G xs [d]) : ∃ x, xs = [x] ∧ Rq K G x d := by
  cases h with
  | cons a b => cases b; exact ⟨_, rfl, a⟩
theorem RqA.two {G : Hp} {xs : List V} {d e : DD} (h : RqA K G xs [d, e]) : ∃ x y, xs = [x, y] ∧ Rq K G x d ∧ Rq K G y e := by
  cases h with
  | cons a b => cases b with | cons b c => cases c; exact ⟨_, _, rfl, a, b⟩
section
variable {p : Pos} {fos : FOs}
@[simp] def oLen : OpN := fun ds P => (∃ l, (ds = [.lst l] ∨ ds = [.klst l]) ∧ P (.int l.length)) ∨ (∃ l, ds = [.tup l] ∧ P (.int l.length)) ∨ ∃ x : Str, ds = [.str x] ∧ x.length ≤ sizeLine ∧ P (.int x.length)
theorem p_len (hm : X.mg "len" = none) (ha : PDos X io [e] fos) (hg : Gl X "len" := by rfl) (he : starEach [e] X.env = (false, eval e X.env) :: starEach [] X.env := by rfl) : PDv X io (.Call (.Name "len" p) [e] [] pos) (fCB oLen fos) :=
  p_cb (call_len_seq.or call_len_str) (fun H xs ds P Q hx h k => by
    rcases h with ⟨l, rfl | rfl, q⟩ | ⟨l, rfl, q⟩ | ⟨x, rfl, z, q⟩
    · obtain ⟨x, rfl, r⟩ := hx.one
      obtain ⟨a, ys, rfl, h, r⟩ := r.lst_inv
      exact .inl ⟨a, ys, rfl, .inl (.inl h), by rw [r.length]; exact k _ _ q (.int _)⟩
    · obtain ⟨x, rfl, r⟩ := hx.one
      cases r with
      | klst h r => exact .inl ⟨_, _, rfl, .inl (Sub.l (G := fun _ => none) (fun _ _ z => by cases z) h), by rw [r.length]; exact k _ _ q (.int _)⟩
    · obtain ⟨x, rfl, r⟩ := hx.one
      obtain ⟨a, ys, rfl, h, r⟩ := r.tup_inv
      exact .inl ⟨a, ys, rfl, .inr h, by rw [r.length]; exact k _ _ q (.int _)⟩
    · obtain ⟨y, rfl, r⟩ := hx.one
      have := r.str_inv
      subst this
      exact .inr ⟨x, rfl, z, k _ _ q (.int _)⟩) hm PySem.boot_len ha hg (by decide) (by decide) he
@[simp] def oAbs : OpN := fun ds P => ∃ i, ds = [.int i] ∧ P (.int (if i < 0 then -i else i))
theorem p_abs (hm : X.mg "abs" = none) (ha : PDos X io [e] fos) (hg : Gl X "abs" := by rfl) (he : starEach [e] X.env = (false, eval e X.env) :: starEach [] X.env := by rfl) : PDv X io (.Call (.Name "abs" p) [e] [] pos) (fCB oAbs fos) :=
  p_cb call_abs (fun H xs ds P Q hx h k => by
    obtain ⟨i, rfl, q⟩ := h
    obtain ⟨x, rfl, r⟩ := hx.one
    exact ⟨i, by rw [r.int_inv], k _ _ q (.int _)⟩) hm (by decide +kernel) ha hg (by decide) (by decide) he
@[simp] def oMax : OpN := fun ds P => ∃ i j, ds = [.int i, .int j] ∧ P (.int (if j > i then j else i))
@[simp] def oMin : OpN := fun ds P => ∃ i j, ds = [.int i, .int j] ∧ P (.int (if j < i then j else i))
theorem p_max (hc : X.calm = true) (hm : X.mg "max" = none) (ha : PDos X io [a, b] fos) (hg : Gl X "max" := by rfl) (he : starEach [a, b] X.env = (false, eval a X.env) :: starEach [b] X.env := by rfl) (hpl : (backTo pos (starEach [b] X.env)).any (·.1) = false := by rfl) : PDv X io (.Call (.Name "max" p) [a, b] [] pos) (fCB oMax fos) :=
  p_cb (call_max2 hc) (fun H xs ds P Q hx h k => by
    obtain ⟨i, j, rfl, q⟩ := h
    obtain ⟨x, y, rfl, r, s⟩ := hx.two
    exact ⟨i, j, by rw [r.int_inv, s.int_inv], k _ _ q (.int _)⟩) hm (by decide +kernel) ha hg (by decide) (by decide) he hpl
theorem p_min (hc : X.calm = true) (hm : X.mg "min" = none) (ha : PDos X io [a, b] fos) (hg : Gl X "min" := by rfl) (he : starEach [a, b] X.env = (false, eval a X.env) :: starEach [b] X.env := by rfl) (hpl : (backTo pos (starEach [b] X.env)).any (·.1) = false := by rfl) : PDv X io (.Call (.Name "min" p) [a, b] [] pos) (fCB oMin fos) :=
  p_cb (call_min2 hc) (fun H xs ds P Q hx h k => by
    obtain ⟨i, j, rfl, q⟩ := h
    obtain ⟨x, y, rfl, r, s⟩ := hx.two
    exact ⟨i, j, by rw [r.int_inv, s.int_inv], k _ _ q (.int _)⟩) hm (by decide +kernel) ha hg (by decide) (by decide) he hpl
@[simp] def oInt : OpN := fun ds P => (∃ i, ds = [.int i] ∧ P (.int i)) ∨ ∃ b, ds = [.bl b] ∧ P (.int (if b then 1 else 0))
theorem p_int (hm : X.mg "int" = none) (ha : PDos X io [e] fos) (hg : Gl X "int" := by rfl) (he : starEach [e] X.env = (false, eval e X.env) :: starEach [] X.env := by rfl) : PDv X io (.Call (.Name "int" p) [e] [] pos) (fCB oInt fos) :=
  p_ct call_int1 (fun H xs ds P Q hx h k => by
    rcases h with ⟨i, rfl, q⟩ | ⟨i, rfl, q⟩
    · obtain ⟨x, rfl, r⟩ := hx.one
      exact .inl ⟨i, by rw [r.int_inv], k _ _ q (.int _)⟩
    · obtain ⟨x, rfl, r⟩ := hx.one
      exact .inr ⟨i, by rw [r.bl_inv], k _ _ q (.int _)⟩) hm (by decide +kernel) ha hg (by decide) (by decide) he
end
end
end DL

namespace DL
open PySem PySem.Spec PyProof.Rows L2
section
variable {X : Cx} {io : List Nat} {e a b c : Expr} {pos : Pos} {K : PySem.W.Frag}
/-! items -/
theorem OTs.length {G H : Hp} : ∀ {vs : List V} {ts : List SV} {fp : List Addr}, OTs K G H vs ts fp → vs.length = ts.length
  | _, _, _, .nil => rfl
  | _, _, _, .cons _ b _ => congrArg (· + 1) (OTs.length b)
theorem OTs.get {G H : Hp} : ∀ {vs : List V} {ts : List SV} {fp : List Addr} {i : Nat} {t : SV}, OTs K G H vs ts fp → ts[i]? = some t → ∃ v f, vs[i]? = some v ∧ OT K G H v t f ∧ ∀ a ∈ f, a ∈ fp
  | _, _, _, _, _, .nil, e => by simp at e
  | _, _, _, 0, _, .cons (v := v) (f1 := f1) x _ _, e => by
    simp at e; subst e
    exact ⟨v, f1, rfl, x, fun a m => List.mem_append_left _ m⟩
  | _, _, _, i + 1, _, .cons x y _, e => by
    obtain ⟨v, f, h1, h2, h3⟩ := OTs.get (i := i) y (by simpa using e)
    exact ⟨v, f, by simpa using h1, h2, fun a m => List.mem_append_right _ (h3 a m)⟩
theorem OTs.dats {G H : Hp} : ∀ {vs : List V} {ds : List DD} {fp : List Addr}, OTs K G H vs (ds.map .dat) fp → RqA K G vs ds ∧ fp = []
  | _, [], _, h => by
    generalize e : List.map SV.dat [] = ts at h
    cases h with
    | nil => exact ⟨.nil, rfl⟩
    | cons => cases e
  | _, d :: ds, _, h => by
    generalize e : List.map SV.dat (d :: ds) = ts at h
    cases h with
    | nil => cases e
    | cons x y _ =>
      rw [List.map_cons] at e
      injection e with e1 e2
      subst e1 e2
      obtain ⟨r, z⟩ := x.dat_inv
      obtain ⟨r2, z2⟩ := OTs.dats y
      subst z z2
      exact ⟨.cons r r2, rfl⟩
theorem RqA.ots {G H : Hp} : ∀ {vs : List V} {ds : List DD}, RqA K G vs ds → OTs K G H vs (ds.map .dat) []
  | _, _, .nil => .nil
  | _, _, .cons a b => OTs.cons (f1 := []) (f2 := []) (.dat a) (RqA.ots b) (fun _ z => nomatch z)
theorem atI_ots {G H : Hp} {vs : List V} {ts : List SV} {fp : List Addr} {i : Int} {t : SV} (h : OTs K G H vs ts fp) (e : atI ts i = some t) : ∃ v f, atI vs i = some v ∧ OT K G H v t f ∧ ∀ a ∈ f, a ∈ fp := by
  unfold atI at e ⊢
  rw [h.length]
  cases q : ixN ts.length i with
  | none => rw [q] at e; cases e
  | some j =>
    rw [q] at e
    exact h.get e
theorem atI_rqA {G : Hp} {vs : List V} {ts : List DD} {i : Int} {t : DD} (h : RqA K G vs ts) (e : atI ts i = some t) : ∃ v, atI vs i = some v ∧ Rq K G v t := by
  unfold atI at e ⊢
  rw [h.length]
  cases q : ixN ts.length i with
  | none => rw [q] at e; cases e
  | some j =>
    rw [q] at e
    exact h.get e
def ixT : SV → Int → (DD → Prop) → Prop
  | .dat (.lst ds), i, P => ∃ d, atI ds i = some d ∧ P d
  | .dat (.tup ds), i, P => ∃ d, atI ds i = some d ∧ P d
  | .dat (.klst ds), i, P => ∃ d, atI ds i = some d ∧ P d
  | .dat (.str x), i, P => ∃ c, x.length ≤ sizeLine ∧ atI x.cps.toList i = some c ∧ P (.str ⟨#[c]⟩)
  | .own ts, i, P => ∃ d, atI ts i = some (.dat d) ∧ P d
  | .tp ts, i, P => ∃ d, atI ts i = some (.dat d) ∧ P d
  | _, _, _ => False
@[simp] def fIx (fa fb : FO) : FV := fun ρ Q => fa ρ fun x ρ1 => fb ρ1 fun y ρ2 => ∃ t i, resT ρ2 x = some t ∧ resD ρ2 y = some (.int i) ∧ ixT t i fun d => Q d ρ2
variable {fa fb : FO}
theorem v_ix (ha : PDo X io a fa) (hb : PDo X io b fb) (hs : PlainIx b := by exact fun _ _ => rfl) : PDv X io (.Subscript a b pos) (fIx fa fb) := by
  obtain ⟨ta, a1, a2⟩ := ha
  obtain ⟨tb, b1, b2⟩ := hb
  refine ⟨_, pe_ix ix_seq a1 b1 hs, fun B G H σ ρ fp Qd Q hB R hf k => ?_⟩
  refine a2 B G H σ ρ fp _ _ hB R hf fun x ρ1 v1 G1 H1 fp1 n1 o1 hf => ?_
  refine b2 B G1 H1 σ ρ1 fp1 _ _ hB n1.rp hf fun y ρ2 v2 G2 H2 fp2 n2 o2 ⟨t, i, e1, e2, q⟩ => ?_
  have hi := (o2.rqH n2.rp e2).int_inv
  obtain ⟨f, ot, hin⟩ := (o1.next n2).tree n2.rp e1
  have n := n1.trans n2
  have sub := n2.rp.co.sub
  cases t with
  | dat d =>
    have rq := ot.dat_inv.1
    cases d with
    | lst ds =>
      obtain ⟨d, e, q⟩ := q
      obtain ⟨p, xs, ev, h, r⟩ := rq.lst_inv
      obtain ⟨w, ew, rw'⟩ := atI_rqA r e
      exact .inl ⟨p, xs, i, w, ev, hi, .inl (sub.rd h), ew, k d ρ2 w G2 H2 fp2 n rw' q⟩
    | tup ds =>
      obtain ⟨d, e, q⟩ := q
      obtain ⟨p, xs, ev, h, r⟩ := rq.tup_inv
      obtain ⟨w, ew, rw'⟩ := atI_rqA r e
      exact .inr (.inl ⟨p, xs, i, w, ev, hi, sub.t h, ew, k d ρ2 w G2 H2 fp2 n rw' q⟩)
    | klst ds =>
      obtain ⟨d, e, q⟩ := q
      cases rq with
      | klst h r =>
        obtain ⟨w, ew, rw'⟩ := atI_rqA r e
        exact .inl ⟨_, _, i, w, rfl, hi, Sub.l (G := fun _ => none) (fun _ _ z => by cases z) h, ew, k d ρ2 w G2 H2 fp2 n rw' q⟩
    | str x =>
      obtain ⟨c, hz, e, q⟩ := q
      exact .inr (.inr ⟨x, i, c, rq.str_inv, hi, hz, e, k _ ρ2 _ G2 H2 fp2 n (.str _) q⟩)
    | _ => exact False.elim q
  | own ts =>
    obtain ⟨d, e, q⟩ := q
    obtain ⟨p, xs, f', ev, _, h, _, os, _⟩ := ot.own_inv
    obtain ⟨w, fw, ew, ow, _⟩ := atI_ots os e
    exact .inl ⟨p, xs, i, w, ev, hi, .inl (.inl h), ew, k d ρ2 w G2 H2 fp2 n ow.dat_inv.1 q⟩
  | ob => exact False.elim q
  | ex => exact False.elim q
  | tp ts =>
    obtain ⟨d, e, q⟩ := q
    obtain ⟨p, xs, ev, h, os⟩ := ot.tp_inv
    obtain ⟨w, fw, ew, ow, _⟩ := atI_ots os e
    exact .inr (.inl ⟨p, xs, i, w, ev, hi, sub.t h, ew, k d ρ2 w G2 H2 fp2 n ow.dat_inv.1 q⟩)

/-! cuts -/
def cutD {α : Type} (xs : List α) (lo hi : Option Int) : List α := (xs.drop (HT.sIx xs.length 0 lo)).take (HT.sIx xs.length xs.length hi - HT.sIx xs.length 0 lo)
theorem cut_rqA {G : Hp} {vs : List V} {ds : List DD} (h : RqA K G vs ds) (lo hi : Option Int) : RqA K G (cutV vs lo hi) (cutD ds lo hi) := by
  unfold cutV cutD
  rw [h.length]
  exact (h.drop _).take _
theorem OTs.take {G H : Hp} : ∀ {vs : List V} {ts : List SV} {fp : List Addr} (n : Nat), OTs K G H vs ts fp → ∃ f, OTs K G H (vs.take n) (ts.take n) f
  | _, _, _, 0, _ => ⟨[], .nil⟩
  | _, _, _, _ + 1, .nil => ⟨[], .nil⟩
  | _, _, _, n + 1, .cons (f1 := f1) (f2 := f2) a b d => by
    have aux : ∀ {vs : List V} {ts : List SV} {fp : List Addr} (n : Nat), OTs K G H vs ts fp → ∃ f, OTs K G H (vs.take n) (ts.take n) f ∧ ∀ a ∈ f, a ∈ fp := by
      intro vs
      induction vs with
      | nil => intro ts fp n h; cases h; exact ⟨[], by simp; exact .nil, fun _ z => nomatch z⟩
      | cons v vs ih =>
        intro ts fp n h
        cases n with
        | zero => exact ⟨[], .nil, fun _ z => nomatch z⟩
        | succ n =>
          cases h with
          | cons a b d =>
            obtain ⟨f, h1, h2⟩ := ih n b
            exact ⟨_, .cons a h1 (fun x m m' => d x m (h2 x m')), fun x m => (List.mem_append.mp m).elim (List.mem_append_left _) fun m => List.mem_append_right _ (h2 x m)⟩
    obtain ⟨f, h, _⟩ := aux (n + 1) (.cons a b d)
    exact ⟨f, h⟩
theorem OTs.drop {G H : Hp} : ∀ {vs : List V} {ts : List SV} {fp : List Addr} (n : Nat), OTs K G H vs ts fp → ∃ f, OTs K G H (vs.drop n) (ts.drop n) f
  | _, _, _, 0, h => ⟨_, h⟩
  | _, _, _, _ + 1, .nil => ⟨[], .nil⟩
  | _, _, _, n + 1, .cons a b d => OTs.drop n b
def slT : SV → Option Int → Option Int → (SV → Prop) → Prop
  | .dat (.lst ds), lo, hi, P => P (.own ((cutD ds lo hi).map .dat))
  | .own ts, lo, hi, P => ∃ ds : List DD, cutD ts lo hi = ds.map SV.dat ∧ P (.own (ds.map SV.dat))
  | .dat (.str x), lo, hi, P => x.length ≤ sizeLine ∧ P (.dat (.str (cutS x lo hi)))
  | _, _, _, _ => False
abbrev FP := Rho → (Option Int → Rho → Prop) → Prop
def PDp (X : Cx) (io : List Nat) (e : Option Expr) (fp' : FP) : Prop := ∃ to, PO X e to ∧ ∀ (B : Bs) G H σ ρ fp (Qd : Option Int → Rho → Prop) (Q : Option Int → Hp → Prop), B.io = io → Rp X.K B G H σ ρ fp → fp' ρ Qd →
  (∀ o ρ' G' H' fp', Nxt X.K B σ G H fp G' H' ρ' fp' → Qd o ρ' → Q o H') → to σ H Q
@[simp] def fNone : FP := fun ρ Q => Q none ρ
@[simp] def fSome (fo : FO) : FP := fun ρ Q => fo ρ fun x ρ1 => ∃ i, resD ρ1 x = some (.int i) ∧ Q (some i) ρ1
theorem s_none : PDp X io none fNone := ⟨_, po_none, fun B G H σ ρ fp Qd Q hB R hf k => k none ρ G H fp (Nxt.refl R) hf⟩
theorem s_some (h : PDo X io e fa) : PDp X io (some e) (fSome fa) := by
  obtain ⟨_, h1, h2⟩ := h
  refine ⟨_, po_some h1, fun B G H σ ρ fp Qd Q hB R hf k => ?_⟩
  refine h2 B G H σ ρ fp _ _ hB R hf fun x ρ1 v1 G1 H1 fp1 n1 o1 ⟨i, e1, q⟩ => ?_
  exact ⟨i, (o1.rqH n1.rp e1).int_inv, k _ ρ1 G1 H1 fp1 n1 q⟩
@[simp] def fSl (fa : FO) (fl fh : FP) : FE := fun ρ Q => fa ρ fun x ρ1 => fl ρ1 fun lo ρ2 => fh ρ2 fun hi ρ3 => ∃ t, resT ρ3 x = some t ∧ slT t lo hi fun r => Q r ρ3
theorem new_own {K : PySem.W.Frag} {B : Bs} {σ : L2.St} {G H G' H' : Hp} {ρ ρ' : Rho} {fp fp' : Nat → List Addr} {vs : List V} {ts : List SV} {fr : List Addr} {Q : VK} (R : Rp K B G H σ ρ fp) (n : Nxt K B σ G H fp G' H' ρ' fp') (o : OTs K G' H' vs ts fr)
    (t1 : ∀ a ∈ fr, ¬ In fp' a) (t2 : ∀ a ∈ fr, H a = none ∨ In fp a)
    (k : ∀ v G'' H'' fp'' fr', Nxt K B σ G H fp G'' H'' ρ' fp'' → OT K G'' H'' v (.own ts) fr' → (∀ a ∈ fr', ¬ In fp'' a) → (∀ a ∈ fr', H a = none ∨ In fp a) → Q v H'') :
    ∀ p, H' p = none → Q (.ref p) (upd H' p (.lst vs)) := fun p hp => by
  have gp : G' p = none := by
    cases e : G' p with
    | none => rfl
    | some u => have := n.rp.co.sub _ _ e; rw [hp] at this; cases this
  have np : p ∉ fr := fun m => by
    obtain ⟨⟨u, h⟩, _⟩ := o.here p m
    rw [hp] at h; cases h
  have n2 := n.trans (Nxt.laid n.rp (o := .lst vs) hp)
  refine k _ _ _ _ (p :: fr) n2 (.own upd_same gp (o.mono (Sub.refl _) (fun a m u e => by rw [upd_ne (fun z : a = p => np (z ▸ m))]; exact e) fun a m => (o.here a m).2) np) (fun a m => ?_) fun a m => ?_
  · rcases List.mem_cons.mp m with z | m
    · subst z
      intro i
      obtain ⟨⟨u, h⟩, _⟩ := n.rp.co.here i
      rw [hp] at h; cases h
    · exact t1 a m
  · rcases List.mem_cons.mp m with z | m
    · subst z
      by_cases q : In fp a
      · exact .inr q
      · exact .inl (n.st.fresh q hp)
    · exact t2 a m
theorem sl_any : SlR X (fun x lo hi H Q => rSlL X.K x lo hi H Q ∨ ∃ z, x = .str z ∧ z.length ≤ sizeLine ∧ Q (.str (cutS z lo hi)) H) := sl_list.or sl_str
theorem e_sl {lo hi : Option Expr} {fl fh : FP} {p2 : Pos} (ha : PDo X io a fa) (hl : PDp X io lo fl) (hh : PDp X io hi fh) : PDe X io (.Subscript a (.Slice lo hi none p2) pos) (fSl fa fl fh) := by
  obtain ⟨ta, a1, a2⟩ := ha
  obtain ⟨tl, l1, l2⟩ := hl
  obtain ⟨th, h1, h2⟩ := hh
  refine ⟨_, pe_slice sl_any a1 l1 h1, fun B G H σ ρ fp Qd Q hB R hf k => ?_⟩
  refine a2 B G H σ ρ fp _ _ hB R hf fun x ρ1 v1 G1 H1 fp1 n1 o1 hf => ?_
  refine l2 B G1 H1 σ ρ1 fp1 _ _ hB n1.rp hf fun lo ρ2 G2 H2 fp2 n2 hf => ?_
  refine h2 B G2 H2 σ ρ2 fp2 _ _ hB n2.rp hf fun hi ρ3 G3 H3 fp3 n3 ⟨t, e1, q⟩ => ?_
  have n := (n1.trans n2).trans n3
  obtain ⟨f, ot, hin⟩ := ((o1.next n2).next n3).tree n3.rp e1
  cases t with
  | dat d =>
    have rq := ot.dat_inv.1
    cases d with
    | lst ds =>
      obtain ⟨p, xs, ev, h, r⟩ := rq.lst_inv
      exact .inl ⟨p, xs, ev, .inl (n3.rp.co.sub.rd h), new_own R n (cut_rqA r lo hi).ots (fun _ z => nomatch z) (fun _ z => nomatch z) fun v G'' H'' fp'' fr' n' ot' t1 t2 => k _ _ _ _ _ _ _ n' ot' t1 t2 q⟩
    | str x =>
      exact .inr ⟨x, rq.str_inv, q.1, k _ _ _ _ _ _ [] n (.dat (.str _)) (fun _ z => nomatch z) (fun _ z => nomatch z) q.2⟩
    | _ => exact False.elim q
  | own ts =>
    obtain ⟨ds, eds, q⟩ := q
    obtain ⟨p, xs, f', ev, _, h, _, os, _⟩ := ot.own_inv
    have : ∃ f, OTs X.K G3 H3 (cutV xs lo hi) (ds.map .dat) f := by
      rw [← eds]
      unfold cutV cutD
      rw [os.length]
      obtain ⟨_, o2⟩ := os.drop (HT.sIx ts.length 0 lo)
      exact o2.take _
    obtain ⟨f2, o2⟩ := this
    obtain ⟨r, _⟩ := o2.dats
    exact .inl ⟨p, xs, ev, .inl (.inl h), new_own R n r.ots (fun _ z => nomatch z) (fun _ z => nomatch z) fun v G'' H'' fp'' fr' n' ot' t1 t2 => k _ _ _ _ _ _ _ n' ot' t1 t2 q⟩
  | ob => exact False.elim q
  | tp => exact False.elim q
  | ex => exact False.elim q
/-- xs[::-1] -/
@[simp] def fRev (fa : FO) : FE := fun ρ Q => fa ρ fun x ρ1 => ∃ ds, resT ρ1 x = some (.dat (.lst ds)) ∧ Q (.own (ds.reverse.map .dat)) ρ1
theorem e_rev {k : Nat} {p1 p2 p3 : Pos} (ha : PDo X io a fa) : PDe X io (.Subscript a (.Slice none none (some (.UnaryOp .USub (.Constant (.int 1) k p1) p2)) p3) pos) (fRev fa) := by
  obtain ⟨ta, a1, a2⟩ := ha
  refine ⟨_, pe_revL a1, fun B G H σ ρ fp Qd Q hB R hf k => ?_⟩
  refine a2 B G H σ ρ fp _ _ hB R hf fun x ρ1 v1 G1 H1 fp1 n1 o1 ⟨ds, e1, q⟩ => ?_
  obtain ⟨f, ot, hin⟩ := o1.tree n1.rp e1
  obtain ⟨p, xs, ev, h, r⟩ := ot.dat_inv.1.lst_inv
  exact ⟨p, xs, ev, .inl (n1.rp.co.sub.rd h), new_own R n1 r.reverse.ots (fun _ z => nomatch z) (fun _ z => nomatch z) fun v G'' H'' fp'' fr' n' ot' t1 t2 => k _ _ _ _ _ _ _ n' ot' t1 t2 q⟩

/-! displays -/
abbrev FSs := Rho → (List SV → Rho → Prop) → Prop
def DSv (K : PySem.W.Frag) (io : List Nat) (ta : TA) (fs : FSs) : Prop := ∀ (B : Bs) G H σ ρ fp (Qd : List SV → Rho → Prop) (Q : List V → Hp → Prop), B.io = io → Rp K B G H σ ρ fp → fs ρ Qd →
  (∀ ts ρ' vs G' H' fp' fr, Nxt K B σ G H fp G' H' ρ' fp' → OTs K G' H' vs ts fr → (∀ a ∈ fr, ¬ In fp' a) → (∀ a ∈ fr, H a = none ∨ In fp a) → Qd ts ρ' → Q vs H') → ta σ H Q
def PDs' (X : Cx) (io : List Nat) (es : List Expr) (fs : FSs) : Prop := ∃ ta, PA X es ta ∧ DSv X.K io ta fs
@[simp] def gNil : FSs := fun ρ Q => Q [] ρ
@[simp] def gCons (fa : FE) (fr : FSs) : FSs := fun ρ Q => fa ρ fun x ρ1 => fr ρ1 fun xs ρ2 => Q (x :: xs) ρ2
theorem g_nil : PDs' X io [] gNil := ⟨_, pa_nil, fun B G H σ ρ fp Qd Q hB R hf k => k [] ρ [] G H fp [] (Nxt.refl R) .nil (fun _ z => nomatch z) (fun _ z => nomatch z) hf⟩
theorem g_cons {es : List Expr} {fe : FE} {fr : FSs} (ha : PDe X io e fe) (hr : PDs' X io es fr) (hs : starEach (e :: es) X.env = (false, eval e X.env) :: starEach es X.env := by rfl) : PDs' X io (e :: es) (gCons fe fr) := by
  obtain ⟨_, a1, a2⟩ := ha
  obtain ⟨_, b1, b2⟩ := hr
  refine ⟨_, pa_cons a1 b1 hs, fun B G H σ ρ fp Qd Q hB R hf k => ?_⟩
  refine a2 B G H σ ρ fp _ _ hB R hf fun x ρ1 v1 G1 H1 fp1 f1 n1 o1 t1 t1' hf => ?_
  refine b2 B G1 H1 σ ρ1 fp1 _ _ hB n1.rp hf fun xs ρ2 vs G2 H2 fp2 f2 n2 os t2 t2' q => ?_
  have o1' : OT X.K G2 H2 v1 x f1 := o1.mono n2.st.ex (fun a m o h => n2.st.keep a o (t1 a m) h) fun a m => by
    obtain ⟨⟨u, h⟩, g⟩ := o1.here a m
    exact n2.st.hid a u (t1 a m) h g
  refine k _ ρ2 _ G2 H2 fp2 (f1 ++ f2) (n1.trans n2) (.cons o1' os fun a m m' => ?_) (fun a m => ?_) (fun a m => ?_) q
  · rcases t2' a m' with z | z
    · obtain ⟨⟨u, h⟩, _⟩ := o1.here a m
      rw [z] at h; cases h
    · exact t1 a m z
  · rcases List.mem_append.mp m with m | m
    · intro i
      rcases n2.inn a i with z | z
      · exact t1 a m z
      · obtain ⟨⟨u, h⟩, _⟩ := o1.here a m
        rw [z] at h; cases h
    · exact t2 a m
  · rcases List.mem_append.mp m with m | m
    · exact t1' a m
    · rcases t2' a m with z | z
      · by_cases q : In fp a
        · exact .inr q
        · exact .inl (n1.st.fresh q z)
      · exact (n1.inn a z).symm
@[simp] def fLst (fs : FSs) : FE := fun ρ Q => fs ρ fun ts ρ1 => ts.length ≤ sizeLine ∧ Q (.own ts) ρ1
theorem e_lst {es : List Expr} {fs : FSs} (h : PDs' X io es fs) : PDe X io (.List es pos) (fLst fs) := by
  obtain ⟨_, a1, a2⟩ := h
  refine ⟨_, pe_lst a1, fun B G H σ ρ fp Qd Q hB R hf k => ?_⟩
  refine a2 B G H σ ρ fp _ _ hB R hf fun ts ρ1 vs G1 H1 fp1 f1 n1 os t1 t1' ⟨hz, q⟩ => ?_
  exact ⟨by rw [os.length]; exact hz, new_own R n1 os t1 t1' fun v G'' H'' fp'' fr' n' ot' u1 u2 => k _ _ _ _ _ _ _ n' ot' u1 u2 q⟩
@[simp] def fTup (fs : FSs) : FV := fun ρ Q => fs ρ fun ts ρ1 => ts.length ≤ sizeLine ∧ Q (.tup (ts.map SV.data)) ρ1
theorem Nxt.sealeds {K : PySem.W.Frag} {B : Bs} {σ : L2.St} {G H G' H' : Hp} {ρ ρ' : Rho} {fp fp' : Nat → List Addr} {v : List V} {r : List SV} {fr : List Addr} (R : Rp K B G H σ ρ fp) (n : Nxt K B σ G H fp G' H' ρ' fp') (ot : OTs K G' H' v r fr) (h1 : ∀ a ∈ fr, ¬ In fp' a) (h2 : ∀ a ∈ fr, H a = none ∨ In fp a) :
    Nxt K B σ G H fp (sealH G' H' fr) H' ρ' fp' ∧ RqA K (sealH G' H' fr) v (r.map SV.data) := by
  have g0 : ∀ a ∈ fr, G' a = none := fun a m => (ot.here a m).2
  have sub : Sub (sealH G' H' fr) H' := fun a o e => by
    by_cases m : a ∈ fr
    · rw [sealH_in m] at e; exact e
    · rw [sealH_out m] at e; exact n.rp.co.sub a o e
  refine ⟨⟨⟨n.rp.co.grow (sealH_sub g0) (fun _ _ _ e => e) (fun a m => ?_) sub, n.rp.stp.sealed g0 fun a m => ?_, n.rp.own, n.rp.io, n.rp.lo.trans (sealH_sub g0)⟩, n.st.sealed g0 h2, n.inn⟩, by rw [← SV.datas_eq]; exact ot.sealed (sealH_sub g0) fun a m o e => by rw [sealH_in m]; exact e⟩
  · rw [sealH_out fun z => h1 a z m]; exact (n.rp.co.here m).2
  · rcases h2 a m with z | z
    · by_cases q : In B.fp0 a
      · exact .inr q
      · exact .inl (R.stp.fresh q z)
    · exact (R.own a z).symm
theorem v_tup {es : List Expr} {fs : FSs} {x1} (h : PDs' X io es fs) : PDv X io (.Tuple es x1 pos) (fTup fs) := by
  obtain ⟨_, a1, a2⟩ := h
  refine ⟨_, pe_tup a1, fun B G H σ ρ fp Qd Q hB R hf k => ?_⟩
  refine a2 B G H σ ρ fp _ _ hB R hf fun ts ρ1 vs G1 H1 fp1 f1 n1 os t1 t1' ⟨hz, q⟩ => ?_
  obtain ⟨n2, rs⟩ := Nxt.sealeds R n1 os t1 t1'
  refine ⟨by rw [os.length]; exact hz, fun p hp => ?_⟩
  have n3 := n2.trans (Nxt.stand n2.rp (o := .tup vs) hp)
  refine k _ ρ1 _ _ _ fp1 n3 (.tup (.inl (.inl upd_same)) (rs.mono fun a o e => ?_)) q
  have ne : a ≠ p := fun z => by
    have := n2.rp.co.sub _ _ e
    rw [z, hp] at this; cases this
  rw [upd_ne ne]; exact e
end
end DL

namespace DL
open PySem PySem.Spec PyProof.Rows L2
/-! ### defs, called where no repr is under way -/
structure RoomG (k : Nat) (A : Around) : Prop where
  r : Room k A
  g : A.guards = some []
theorem RoomG.mono {j k : Nat} {A : Around} (h : RoomG k A) (l : j ≤ k) : RoomG j A := ⟨h.r.mono l, h.g⟩
structure FnG (P : Program) (w : World) (K : PySem.W.Frag) (mg : Str → Option Value) (base : Heap) (CX : CXT) (k : Nat) (f : Addr) (fd : FuncData) (ps : List Str) (sp : Sp) : Prop where
  len : ∀ vs H Q E, sp vs H Q E → vs.length = ps.length
  run : ∀ (A : Around) (outer : List Env) (s : Shared) (H : Hp) (args : Args) (us : List Value) (vs : List V) (Q : VK) (E : XK), RoomG k A → Env0 P w K mg base A outer s H → BindsTo s fd args (ps.zip us) → Vals vs us → sp vs H Q E →
    codeAny (model P w) A (.call (.ref f) args) (CR CX outer P w H s Q E) s
section
variable {CX : CXT} {P : Program} {w : World} {K : PySem.W.Frag} {mg : Str → Option Value} {base : Heap} {k : Nat} {f : Addr} {fd : FuncData} {ps : List Str} {sp : Sp}
theorem FnG.mono {j : Nat} (F : FnG P w K mg base CX j f fd ps sp) (h : j ≤ k) : FnG P w K mg base CX k f fd ps sp := ⟨F.len, fun A outer s H args us vs Q E hr => F.run A outer s H args us vs Q E (hr.mono h)⟩
theorem FnG.imp {sp' : Sp} (F : FnG P w K mg base CX k f fd ps sp) (h : ∀ vs H Q E, sp' vs H Q E → sp vs H Q E) : FnG P w K mg base CX k f fd ps sp' :=
  ⟨fun vs H Q E q => F.len vs H Q E (h _ _ _ _ q), fun A outer s H args us vs Q E hr he hb hv hs => F.run A outer s H args us vs Q E hr he hb hv (h _ _ _ _ hs)⟩
theorem fn_ofG {name qual : Str} {params : Arguments} {body : List Stmt} {scope : Scope} {dV kV doc pm cdv ct oc : Value} {an od : Option Addr}
    {osl : Array (Option Value)} {N : List Str} (lk : K.lookup f = some ⟨oc, od, .func (PySem.W.fnOf name qual params body scope dV kV doc pm an cdv ct), osl⟩) (hcd : PySem.W.codeIn K cdv qual = true) (S : FnScope N ps scope)
    (len : ∀ vs H Q E, sp vs H Q E → vs.length = ps.length)
    (hbody : ∀ (A : Around) (outer : List Env) (s : Shared) (H : Hp) (vs : List V) (Q : VK) (E : XK), RoomG k (A.deeper (envOfC qual scope s.heap.objs.size f cdv)) → sp vs H Q E →
      ∃ t, PSs (cxOf CX P w K mg base N qual scope f cdv A outer s H E) body t ∧ t { nx := fun _ H' => Q .non H', rt := Q } (start N vs) H) :
    FnG P w K mg base CX (k + 1) f (PySem.W.fnOf name qual params body scope dV kV doc pm an cdv ct) ps sp := by
  refine ⟨len, fun A outer s H args us vs Q E hr e0 hb r hsp => ?_⟩
  have hl := len _ _ _ _ hsp
  have KX : K.In s.heap := e0.mod.kin.keeps fun b o e => (e0.bs b o e).1
  have lim : s.heap.NoLimit := e0.mod.nolimit.keeps fun b o e => (e0.bs b o e).1
  have hkind : ∀ y ∈ ps.zip us, scope.names.lookup y.1 = some .local ∨ (scope.names.lookup y.1 = some .cell ∧ ((cellsFrom (s.heap.objs.size + 1) scope.names []).lookup y.1).isSome = true) := fun ⟨n, v⟩ hy => by
    rcases S.par n (List.of_mem_zip hy).1 with q | q
    · exact .inl q
    · exact .inr ⟨q, PySem.W.cellsFrom_some _ _ _ (.inl q)⟩
  refine codeAny_call_function hr.r.depth (KX _ _ lk) rfl S.co S.gen rfl (PySem.W.codeRec_of KX hcd) (hb _ _ _ _ ?_)
  refine wpAny_newFunctionEnv_cells S.kind hkind fun env he s1 x => ?_
  subst he
  refine ⟨lim.keeps x.toInCall.keep, codeAny_func ?_⟩
  obtain ⟨t, ht, hq⟩ := hbody A outer s H vs Q E ⟨hr.r.deeper _, hr.g⟩ hsp
  have I : Inv (cxOf CX P w K mg base N qual scope f cdv A outer s H E) [] (start N vs) H s1 := inv_start S hr.r.hd e0 hl r x
  refine wpAny_mono (ht.run [] s1 (start N vs) H _ I hq) (fun fl s' hs => ?_) fun e s' hs => hs
  have fin : ∀ {σ' : L2.St} {H' : Hp} {v : V} {u : Value}, Inv (cxOf CX P w K mg base N qual scope f cdv A outer s H E) [] σ' H' s' → RelV v u → Q v H' → CE outer P w H s Q u s' :=
    fun {σ' H' v u} J rv q => ⟨v, H', J.os, J.bare, J.base, J.hok, rv, q⟩
  cases fl with
  | ret u =>
    obtain ⟨v, σ', H', J, rv, q⟩ := hs
    exact fin J rv q
  | next =>
    obtain ⟨σ', H', J, q⟩ := hs
    exact fin (v := V.non) (u := Value.none) J rfl q
  | brk =>
    obtain ⟨_, _, _, q⟩ := hs
    exact False.elim q
  | cont =>
    obtain ⟨_, _, _, q⟩ := hs
    exact False.elim q
end
section
variable {X : Cx} {CX : CXT} {k : Nat} {f C : Addr} {fd : FuncData} {ps : List Str} {sp : Sp} {E : XK} {x m : Str} {p pos apos : Pos} {e o : Expr} {es : List Expr} {ta : TE} {t : TA}
theorem run_fnG {pins : List (Addr × Obj)} {σ : L2.St} {H : Hp} {s : Shared} {Q : VK} {us : List Value} {vs : List V} (F : FnG X.prog X.w X.K X.mg X.base CX k f fd ps sp) (hr : RoomG k X.A) (hb : Binds X.K fd ps []) (hx : Passes CX X E)
    (I : Inv X pins σ H s) (r : Vals vs us) (h : sp vs H Q E) : wpAny (model X.prog X.w) X.A (call (.ref f) us) (EP X pins σ Q) X.xe s := by
  have hl : (us ++ []).length = ps.length := by rw [List.append_nil, ← r.length]; exact F.len _ _ _ _ h
  have hb2 := hb s us I.kIn hl
  rw [List.append_nil] at hb2
  refine wpAny_call (codeAny_mono (F.run X.A X.stack s H ⟨us, []⟩ us vs Q E hr I.env0 hb2 r h) fun r s' hq => ?_)
  cases r with
  | error e => exact hx pins σ H s e s' I hq
  | ok fl =>
    cases fl with
    | ret u => exact I.after hq
    | next => exact False.elim hq
    | brk => exact False.elim hq
    | cont => exact False.elim hq
theorem pe_callG (F : FnG X.prog X.w X.K X.mg X.base CX k f fd ps sp) (hr : RoomG k X.A) (hg : Gl X x) (hm : X.mg x = some (.ref f)) (hk : PySem.W.keepIn X.K (.ref f) = true) (hb : Binds X.K fd ps []) (hx : Passes CX X E)
    (ha : PA X (e :: es) t) (hdb : (x == ("__debug__" : Str)) = false := by decide) (he : starEach (e :: es) X.env = (false, eval e X.env) :: starEach es X.env := by rfl) (hpl : (backTo pos (starEach es X.env)).any (·.1) = false := by rfl) :
    PE X (.Call (.Name x p) (e :: es) [] pos) (tCall sp [] E t) := by
  refine ⟨fun pins s σ H Q I h => ?_⟩
  refine wpAny_Call_Name_kw (ld_glob I hg hm ?_ hdb)
  refine PySem.W.callWith_K (h₀ := X.base) I.ok.mod.kin hk (thn (ha.run pos pins s σ H _ I h) fun us s1 ⟨vs, H1, I1, r, q⟩ => ⟨I1.kIn, ?_⟩) he hpl
  have q' : sp (vs ++ []) H1 Q E := q
  rw [List.append_nil] at q'
  exact run_fnG F hr hb hx I1 r q'
theorem pe_callG0 (F : FnG X.prog X.w X.K X.mg X.base CX k f fd ps sp) (hr : RoomG k X.A) (hg : Gl X x) (hm : X.mg x = some (.ref f)) (hk : PySem.W.keepIn X.K (.ref f) = true) (hb : Binds X.K fd ps []) (hx : Passes CX X E)
    (hdb : (x == ("__debug__" : Str)) = false := by decide) : PE X (.Call (.Name x p) [] [] pos) (tCall sp [] E tNil) := by
  refine ⟨fun pins s σ H Q I h => ?_⟩
  refine wpAny_Call_Name_kw (ld_glob I hg hm ?_ hdb)
  exact PySem.W.callWith_K0 I.kIn hk (run_fnG (us := []) F hr hb hx I .nil h)
variable {ks : List Str} {kws : List Keyword} {tk : TA} {g : List Value → List Value → List Value} {gV : List V → List V → List V}
theorem run_fnkG {pins : List (Addr × Obj)} {σ : L2.St} {H : Hp} {s : Shared} {Q : VK} {us ws : List Value} {vs zs : List V} (F : FnG X.prog X.w X.K X.mg X.base CX k f fd ps sp) (hr : RoomG k X.A) (hb : KBinds X.K fd ps ks g gV) (hx : Passes CX X E)
    (I : Inv X pins σ H s) (r : Vals vs us) (rz : Vals zs ws) (h : sp (gV vs zs) H Q E) : wpAny (model X.prog X.w) X.A (call (.ref f) us (ks.zip ws)) (EP X pins σ Q) X.xe s := by
  have r2 := hb.rel r rz
  have hl : (g us ws).length = ps.length := by rw [← r2.length]; exact F.len _ _ _ _ h
  refine wpAny_call (codeAny_mono (F.run X.A X.stack s H ⟨us, ks.zip ws⟩ (g us ws) (gV vs zs) Q E hr I.env0 (hb.to s us ws I.kIn hl) r2 h) fun r s' hq => ?_)
  cases r with
  | error e => exact hx pins σ H s e s' I hq
  | ok fl =>
    cases fl with
    | ret u => exact I.after hq
    | next => exact False.elim hq
    | brk => exact False.elim hq
    | cont => exact False.elim hq
end

/-! ### what a def is worth, by data -/
abbrev Ctr := List SV → (SV → List SV → Prop) → Prop
def spD (K : PySem.W.Frag) (F : Ctr) : Sp := fun vs H Q _ => ∃ G as fp Qd, Co K G H (vs.map some) (as.map some) fp ∧ F as Qd ∧ ∀ r as' v G' H' fp' fr, Co K G' H' (vs.map some) (as'.map some) fp' →
  Stp (In fp) G H G' H' → (∀ a, In fp' a → In fp a ∨ H a = none) → OT K G' H' v r fr → (∀ a ∈ fr, ¬ In fp' a) → (∀ a ∈ fr, H a = none ∨ In fp a) → Qd r as' → Q v H'
/-- the def x stands, and is worth F -/
def Hs (P : Program) (w : World) (K : PySem.W.Frag) (mg : Str → Option Value) (base : Heap) (x : Str) (ps : List Str) (k : Nat) (F : Ctr) : Prop :=
  ∃ f fd, mg x = some (.ref f) ∧ PySem.W.keepIn K (.ref f) = true ∧ Binds K fd ps [] ∧ FnG P w K mg base CX0 k f fd ps (spD K F)
/-- an argument: a tree given away, or a slot -/
inductive AV where
  | val (t : SV)
  | ref (i : Nat)
inductive AVR (K : PySem.W.Frag) (G H : Hp) (σ : L2.St) : List V → List AV → List Addr → Prop
  | nil : AVR K G H σ [] [] []
  | val {v : V} {t : SV} {vs : List V} {as : List AV} {f1 f2 : List Addr} : OT K G H v t f1 → AVR K G H σ vs as f2 → (∀ a ∈ f1, a ∉ f2) → AVR K G H σ (v :: vs) (.val t :: as) (f1 ++ f2)
  | ref {v : V} {i : Nat} {vs : List V} {as : List AV} {f2 : List Addr} : σ[i]? = some (some v) → AVR K G H σ vs as f2 → AVR K G H σ (v :: vs) (.ref i :: as) f2
theorem AVR.mono {K : PySem.W.Frag} {G H G' H' : Hp} {σ : L2.St} (s : Sub G G') : ∀ {vs : List V} {as : List AV} {fr : List Addr}, AVR K G H σ vs as fr → (∀ a ∈ fr, ∀ o, H a = some o → H' a = some o) → (∀ a ∈ fr, G' a = none) → AVR K G' H' σ vs as fr
  | _, _, _, .nil, _, _ => .nil
  | _, _, _, .val a b d, k, z => .val (a.mono s (fun x m => k x (List.mem_append_left _ m)) fun x m => z x (List.mem_append_left _ m)) (AVR.mono s b (fun x m => k x (List.mem_append_right _ m)) fun x m => z x (List.mem_append_right _ m)) d
  | _, _, _, .ref a b, k, z => .ref a (AVR.mono s b k z)
theorem AVR.here {K : PySem.W.Frag} {G H : Hp} {σ : L2.St} : ∀ {vs : List V} {as : List AV} {fr : List Addr}, AVR K G H σ vs as fr → ∀ a ∈ fr, (∃ o, H a = some o) ∧ G a = none
  | _, _, _, .nil, a, m => by cases m
  | _, _, _, .val x y _, a, m => (List.mem_append.mp m).elim (x.here a) (AVR.here y a)
  | _, _, _, .ref _ y, a, m => AVR.here y a m
abbrev FAs := Rho → (List AV → Rho → Prop) → Prop
def DAs (K : PySem.W.Frag) (io : List Nat) (ta : TA) (fa : FAs) : Prop := ∀ (B : Bs) G H σ ρ fp (Qd : List AV → Rho → Prop) (Q : List V → Hp → Prop), B.io = io → Rp K B G H σ ρ fp → fa ρ Qd →
  (∀ as ρ' vs G' H' fp' fr, Nxt K B σ G H fp G' H' ρ' fp' → AVR K G' H' σ vs as fr → (∀ a ∈ fr, ¬ In fp' a) → (∀ a ∈ fr, H a = none ∨ In fp a) → Qd as ρ' → Q vs H') → ta σ H Q
def PDas (X : Cx) (io : List Nat) (es : List Expr) (fa : FAs) : Prop := ∃ ta, PA X es ta ∧ DAs X.K io ta fa
@[simp] def aNil : FAs := fun ρ Q => Q [] ρ
@[simp] def aVal (fa : FE) (fr : FAs) : FAs := fun ρ Q => fa ρ fun x ρ1 => fr ρ1 fun xs ρ2 => Q (.val x :: xs) ρ2
@[simp] def aRef (i : Nat) (fr : FAs) : FAs := fun ρ Q => (∃ t, ρ[i]? = some (some t)) ∧ fr ρ fun xs ρ2 => Q (.ref i :: xs) ρ2
section
variable {X : Cx} {io : List Nat} {e : Expr} {es : List Expr} {fr : FAs}
theorem a_nil : PDas X io [] aNil := ⟨_, pa_nil, fun B G H σ ρ fp Qd Q hB R hf k => k [] ρ [] G H fp [] (Nxt.refl R) .nil (fun _ z => nomatch z) (fun _ z => nomatch z) hf⟩
theorem a_val {fe : FE} (ha : PDe X io e fe) (hr : PDas X io es fr) (hs : starEach (e :: es) X.env = (false, eval e X.env) :: starEach es X.env := by rfl) : PDas X io (e :: es) (aVal fe fr) := by
  obtain ⟨_, a1, a2⟩ := ha
  obtain ⟨_, b1, b2⟩ := hr
  refine ⟨_, pa_cons a1 b1 hs, fun B G H σ ρ fp Qd Q hB R hf k => ?_⟩
  refine a2 B G H σ ρ fp _ _ hB R hf fun x ρ1 v1 G1 H1 fp1 f1 n1 o1 t1 t1' hf => ?_
  refine b2 B G1 H1 σ ρ1 fp1 _ _ hB n1.rp hf fun xs ρ2 vs G2 H2 fp2 f2 n2 os t2 t2' q => ?_
  have o1' : OT X.K G2 H2 v1 x f1 := o1.mono n2.st.ex (fun a m o h => n2.st.keep a o (t1 a m) h) fun a m => by
    obtain ⟨⟨u, h⟩, g⟩ := o1.here a m
    exact n2.st.hid a u (t1 a m) h g
  refine k _ ρ2 _ G2 H2 fp2 (f1 ++ f2) (n1.trans n2) (.val o1' os fun a m m' => ?_) (fun a m => ?_) (fun a m => ?_) q
  · rcases t2' a m' with z | z
    · obtain ⟨⟨u, h⟩, _⟩ := o1.here a m
      rw [z] at h; cases h
    · exact t1 a m z
  · rcases List.mem_append.mp m with m | m
    · intro i
      rcases n2.inn a i with z | z
      · exact t1 a m z
      · obtain ⟨⟨u, h⟩, _⟩ := o1.here a m
        rw [z] at h; cases h
    · exact t2 a m
  · rcases List.mem_append.mp m with m | m
    · exact t1' a m
    · rcases t2' a m with z | z
      · by_cases q : In fp a
        · exact .inr q
        · exact .inl (n1.st.fresh q z)
      · exact (n1.inn a z).symm
theorem a_ref {te : TE} (i : Nat) (h : PE X e te) (ht : te = tVar i) (hr : PDas X io es fr) (hs : starEach (e :: es) X.env = (false, eval e X.env) :: starEach es X.env := by rfl) : PDas X io (e :: es) (aRef i fr) := by
  subst ht
  obtain ⟨_, b1, b2⟩ := hr
  refine ⟨_, pa_cons h b1 hs, fun B G H σ ρ fp Qd Q hB R hf k => ?_⟩
  obtain ⟨⟨t, e1⟩, hf⟩ := hf
  obtain ⟨v, e2, _⟩ := R.co.slot i t e1
  refine ⟨v, e2, ?_⟩
  exact b2 B G H σ ρ fp _ _ hB R hf fun xs ρ2 vs G2 H2 fp2 f2 n2 os t2 t2' q => k _ ρ2 _ G2 H2 fp2 f2 n2 (.ref e2 os) t2 t2' q
end
/-! the arguments as a caller's state, and back -/
@[simp] def resA (ρ : Rho) : List AV → Option (List SV)
  | [] => some []
  | .val t :: r => (resA ρ r).map (t :: ·)
  | .ref i :: r => match ρ[i]?.join, resA ρ r with
    | some t, some ts => some (t :: ts)
    | _, _ => none
@[simp] def refs : List AV → List Nat
  | [] => []
  | .val _ :: r => refs r
  | .ref i :: r => i :: refs r
@[simp] def wb (ρ : Rho) : List AV → List SV → Rho
  | .ref i :: r, t :: ts => wb (ρ.set i (some t)) r ts
  | .val _ :: r, _ :: ts => wb ρ r ts
  | _, _ => ρ
def shiftF (f : List Addr) (g : Nat → List Addr) : Nat → List Addr
  | 0 => f
  | n + 1 => g n
theorem join_some {ρ : Rho} {i : Nat} {t : SV} (h : ρ[i]?.join = some t) : ρ[i]? = some (some t) := by
  cases q : ρ[i]? with
  | none => rw [q] at h; cases h
  | some z => rw [q] at h; simp at h; rw [h]
section
variable {K : PySem.W.Frag} {B : Bs} {σ : L2.St} {G H G' H' : Hp} {ρ : Rho} {fp fp' : Nat → List Addr}
theorem wb_len : ∀ (avs : List AV) (ts : List SV) (ρ : Rho), (wb ρ avs ts).length = ρ.length
  | [], _, _ => rfl
  | .ref i :: r, [], _ => rfl
  | .val _ :: r, [], _ => rfl
  | .ref i :: r, t :: ts, ρ => by rw [wb, wb_len r ts, List.length_set]
  | .val _ :: r, t :: ts, ρ => by rw [wb, wb_len r ts]
theorem wb_out {i : Nat} : ∀ (avs : List AV) (ts : List SV) (ρ : Rho), i ∉ refs avs → (wb ρ avs ts)[i]? = ρ[i]?
  | [], _, _, _ => rfl
  | .ref j :: r, [], _, _ => rfl
  | .val _ :: r, [], _, _ => rfl
  | .ref j :: r, t :: ts, ρ, h => by
    have h1 : i ≠ j := fun e => h (by rw [e]; exact List.mem_cons_self)
    rw [wb, wb_out r ts _ fun m => h (List.mem_cons_of_mem _ m), List.getElem?_set_ne (Ne.symm h1)]
  | .val _ :: r, t :: ts, ρ, h => by rw [wb, wb_out r ts _ h]
theorem wb_in {i k : Nat} {t : SV} : ∀ (avs : List AV) (ts : List SV) (ρ : Rho), (refs avs).Nodup → avs[k]? = some (.ref i) → ts[k]? = some t → i < ρ.length → (wb ρ avs ts)[i]? = some (some t) := by
  intro avs
  induction avs generalizing k with
  | nil => intro ts ρ _ h; simp at h
  | cons a r ih =>
    intro ts ρ nd h1 h2 h3
    cases ts with
    | nil => simp at h2
    | cons u ts =>
      cases k with
      | zero =>
        simp at h1 h2
        subst h1 h2
        rw [wb, wb_out r ts _ (List.nodup_cons.mp nd).1, List.getElem?_set_self h3]
      | succ k =>
        cases a with
        | val z => rw [wb]; exact ih ts ρ nd (by simpa using h1) (by simpa using h2) h3
        | ref j => rw [wb]; exact ih ts _ (List.nodup_cons.mp nd).2 (by simpa using h1) (by simpa using h2) (by rw [List.length_set]; exact h3)
theorem refs_at {i : Nat} : ∀ {avs : List AV}, i ∈ refs avs → ∃ k : Nat, avs[k]? = some (AV.ref i)
  | [], h => by cases h
  | .val _ :: r, h => let ⟨k, e⟩ := refs_at (avs := r) h; ⟨k + 1, by simpa using e⟩
  | .ref j :: r, h => by
    rcases List.mem_cons.mp h with e | h
    · subst e; exact ⟨0, rfl⟩
    · obtain ⟨k, e⟩ := refs_at h
      exact ⟨k + 1, by simpa using e⟩
theorem refs_of {i k : Nat} : ∀ {avs : List AV}, avs[k]? = some (.ref i) → i ∈ refs avs := by
  intro avs
  induction avs generalizing k with
  | nil => intro h; simp at h
  | cons a r ih =>
    intro h
    cases k with
    | zero => simp at h; subst h; exact List.mem_cons_self
    | succ k =>
      have := ih (k := k) (by simpa using h)
      cases a with
      | val _ => exact this
      | ref _ => exact List.mem_cons_of_mem _ this
/-- the arguments -/
theorem args_co (c : Co K G H σ ρ fp) : ∀ {vs : List V} {avs : List AV} {fr : List Addr} {as : List SV}, AVR K G H σ vs avs fr → (∀ a ∈ fr, ¬ In fp a) → (refs avs).Nodup → resA ρ avs = some as →
    ∃ g, Co K G H (vs.map some) (as.map some) g ∧ (∀ (k : Nat) a, a ∈ g k → (a ∈ fr ∧ ∃ t, avs[k]? = some (.val t)) ∨ ∃ i, avs[k]? = some (.ref i) ∧ a ∈ fp i) ∧ vs.length = avs.length ∧ as.length = avs.length ∧ ∀ (k i : Nat), avs[k]? = some (.ref i) → ∃ v, vs[k]? = some v ∧ σ[i]? = some (some v)
  | _, _, _, _, .nil, _, _, e => by
    have : [] = _ := Option.some.inj e
    subst this
    exact ⟨fun _ => [], ⟨rfl, c.sub, fun i t h => by simp at h, fun _ _ => rfl, fun _ _ _ h => (by cases h)⟩, fun _ _ h => (by cases h), rfl, rfl, fun k i h => by simp at h⟩
  | _, _, _, _, .val (v := v) (t := t) (vs := vs) (as := as) (f1 := f1) (f2 := f2) o r d, ho, nd, e => by
    unfold resA at e
    cases q : resA ρ as with
    | none => rw [q] at e; cases e
    | some us =>
      rw [q] at e
      have := Option.some.inj e
      subst this
      obtain ⟨g, cg, hg, l1, l2, hr⟩ := args_co c r (fun a m => ho a (List.mem_append_right _ m)) nd q
      refine ⟨shiftF f1 g, ⟨by simp; exact l1.trans l2.symm, c.sub, fun i u h => ?_, fun i h => ?_, fun i j a h1 h2 => ?_⟩, fun k a h => ?_, congrArg (· + 1) l1, congrArg (· + 1) l2, fun k i h => ?_⟩
      · cases i with
        | zero => simp at h; subst h; exact ⟨v, rfl, o⟩
        | succ i =>
          obtain ⟨w, e1, ow⟩ := cg.slot i u (by simpa using h)
          exact ⟨w, by simpa using e1, ow⟩
      · cases i with
        | zero => exact absurd rfl (h t)
        | succ i => exact cg.nil i fun u e => h u (by simpa using e)
      · cases i with
        | zero =>
          cases j with
          | zero => rfl
          | succ j =>
            rcases hg j a h2 with ⟨m, _⟩ | ⟨i, _, m⟩
            · exact absurd m (d a h1)
            · exact absurd ⟨i, m⟩ (ho a (List.mem_append_left _ h1))
        | succ i =>
          cases j with
          | zero =>
            rcases hg i a h1 with ⟨m, _⟩ | ⟨i, _, m⟩
            · exact absurd m (d a h2)
            · exact absurd ⟨i, m⟩ (ho a (List.mem_append_left _ h2))
          | succ j => exact congrArg (· + 1) (cg.dis i j a h1 h2)
      · cases k with
        | zero => exact .inl ⟨List.mem_append_left _ h, t, rfl⟩
        | succ k =>
          rcases hg k a h with ⟨m, u, e⟩ | ⟨i, e, m⟩
          · exact .inl ⟨List.mem_append_right _ m, u, by simpa using e⟩
          · exact .inr ⟨i, by simpa using e, m⟩
      · cases k with
        | zero => simp at h
        | succ k =>
          obtain ⟨w, e1, e2⟩ := hr k i (by simpa using h)
          exact ⟨w, by simpa using e1, e2⟩
  | _, _, _, _, .ref (v := v) (i := i0) (vs := vs) (as := as) (f2 := f2) o r, ho, nd, e => by
    unfold resA at e
    cases q0 : ρ[i0]?.join with
    | none => rw [q0] at e; simp at e
    | some t =>
      cases q : resA ρ as with
      | none => rw [q0, q] at e; cases e
      | some us =>
        rw [q0, q] at e
        have := Option.some.inj e
        subst this
        have nd' : i0 ∉ refs as ∧ (refs as).Nodup := List.nodup_cons.mp nd
        obtain ⟨g, cg, hg, l1, l2, hr⟩ := args_co c r ho nd'.2 q
        obtain ⟨w, e1, ot⟩ := c.slot i0 t (join_some q0)
        rw [o] at e1
        have : v = w := by injection e1 with z; injection z
        subst this
        refine ⟨shiftF (fp i0) g, ⟨by simp; exact l1.trans l2.symm, c.sub, fun i u h => ?_, fun i h => ?_, fun i j a h1 h2 => ?_⟩, fun k a h => ?_, congrArg (· + 1) l1, congrArg (· + 1) l2, fun k i h => ?_⟩
        · cases i with
          | zero => simp at h; subst h; exact ⟨v, rfl, ot⟩
          | succ i =>
            obtain ⟨w, e1, ow⟩ := cg.slot i u (by simpa using h)
            exact ⟨w, by simpa using e1, ow⟩
        · cases i with
          | zero => exact absurd rfl (h t)
          | succ i => exact cg.nil i fun u e => h u (by simpa using e)
        · have clash : ∀ j, a ∈ g j → a ∈ fp i0 → False := fun j h2 h1 => by
            rcases hg j a h2 with ⟨m, _⟩ | ⟨i, e, m⟩
            · exact ho a m ⟨i0, h1⟩
            · have := c.dis i0 i a h1 m
              subst this
              exact nd'.1 (refs_of e)
          cases i with
          | zero =>
            cases j with
            | zero => rfl
            | succ j => exact (clash j h2 h1).elim
          | succ i =>
            cases j with
            | zero => exact (clash i h1 h2).elim
            | succ j => exact congrArg (· + 1) (cg.dis i j a h1 h2)
        · cases k with
          | zero => exact .inr ⟨i0, rfl, h⟩
          | succ k =>
            rcases hg k a h with ⟨m, u, e⟩ | ⟨i, e, m⟩
            · exact .inl ⟨m, u, by simpa using e⟩
            · exact .inr ⟨i, by simpa using e, m⟩
        · cases k with
          | zero => simp at h; subst h; exact ⟨v, rfl, o⟩
          | succ k =>
            obtain ⟨w, e1, e2⟩ := hr k i (by simpa using h)
            exact ⟨w, by simpa using e1, e2⟩
open Classical in
noncomputable def ixOf (avs : List AV) (i : Nat) : Option Nat := if h : ∃ k : Nat, avs[k]? = some (AV.ref i) then some (choose h) else none
theorem ixOf_s {avs : List AV} {i k : Nat} (h : ixOf avs i = some k) : avs[k]? = some (AV.ref i) := by
  unfold ixOf at h
  split at h
  · rename_i q
    injection h with h
    subst h
    exact Classical.choose_spec q
  · cases h
theorem ixOf_n {avs : List AV} {i : Nat} (h : ixOf avs i = none) : ¬ ∃ k : Nat, avs[k]? = some (AV.ref i) := by
  unfold ixOf at h
  split at h
  · cases h
  · assumption
/-- behind a call -/
theorem back_co {vs : List V} {avs : List AV} {fr : List Addr} {as as' : List SV} {g g' : Nat → List Addr} (R : Rp K B G H σ ρ fp) (ho : ∀ a ∈ fr, ¬ In fp a) (hfr : ∀ a ∈ fr, In B.fp0 a ∨ B.H0 a = none) (nd : (refs avs).Nodup) (ha : resA ρ avs = some as)
    (hg : ∀ (k : Nat) a, a ∈ g k → (a ∈ fr ∧ ∃ t, avs[k]? = some (AV.val t)) ∨ ∃ i, avs[k]? = some (AV.ref i) ∧ a ∈ fp i) (l2 : as.length = avs.length) (hr : ∀ (k i : Nat), avs[k]? = some (AV.ref i) → ∃ v, vs[k]? = some v ∧ σ[i]? = some (some v))
    (c' : Co K G' H' (vs.map some) (as'.map some) g') (st : Stp (In g) G H G' H') (inn : ∀ a, In g' a → In g a ∨ H a = none) (hl : as'.length = as.length) :
    ∃ fp2, Rp K B G' H' σ (wb ρ avs as') fp2 ∧ Stp (fun a => In fp a ∨ a ∈ fr) G H G' H' ∧ (∀ a, In fp2 a → In fp a ∨ H a = none ∨ a ∈ fr) ∧ ∀ a, In fp2 a → In g' a ∨ In fp a ∧ ¬ In g a := by
  have gsub : ∀ a, In g a → In fp a ∨ a ∈ fr := fun a ⟨k, m⟩ => (hg k a m).elim (fun ⟨m, _⟩ => .inr m) fun ⟨i, _, m⟩ => .inl ⟨i, m⟩
  let ix : Nat → Option Nat := ixOf avs
  have ix_s : ∀ {i k : Nat}, ix i = some k → avs[k]? = some (AV.ref i) := fun h => ixOf_s h
  have ix_n : ∀ {i}, ix i = none → i ∉ refs avs := fun h m => ixOf_n h (refs_at m)
  have as_at : ∀ {k i : Nat}, avs[k]? = some (AV.ref i) → ∃ t, as'[k]? = some t := fun {k i} h => by
    have : k < avs.length := (List.getElem?_eq_some_iff.mp h).1
    exact ⟨as'[k]'(by omega), List.getElem?_eq_getElem (by omega)⟩
  have ilt : ∀ {k i : Nat}, avs[k]? = some (AV.ref i) → i < ρ.length := fun {k i} h => by
    obtain ⟨v, _, e⟩ := hr k i h
    have := (List.getElem?_eq_some_iff.mp e).1
    rw [R.co.len] at this
    exact this
  let fp2 : Nat → List Addr := fun i => match ix i with
    | some k => g' k
    | none => fp i
  have clash : ∀ {i k a}, ix i = none → a ∈ fp i → a ∈ g k → False := fun {i k a} h m1 m2 => by
    rcases hg k a m2 with ⟨m, _⟩ | ⟨j, e, m⟩
    · exact ho a m ⟨i, m1⟩
    · have := R.co.dis i j a m1 m
      subst this
      exact ix_n h (refs_of e)
  have nin : ∀ {i a}, ix i = none → a ∈ fp i → ¬ In g a := fun h m ⟨k, m2⟩ => clash h m m2
  have here : ∀ {a}, In fp a → ∃ o, H a = some o := fun h => (R.co.here h).1
  refine ⟨fp2, ⟨⟨by rw [wb_len]; exact R.co.len, c'.sub, fun i t h => ?_, fun i h => ?_, fun i j a h1 h2 => ?_⟩, R.stp.trans (O' := fun a => In g a) st (fun a h => ?_), fun a h => ?_, fun i m => ?_, R.lo.trans st.ex⟩, ⟨st.ex, fun a o n e => st.keep a o (fun z => n (gsub a z)) e, fun a o n e g0 => st.hid a o (fun z => n (gsub a z)) e g0⟩, fun a h => ?_, fun a h => ?_⟩
  · cases q : ix i with
    | some k =>
      have hk := ix_s q
      obtain ⟨u, eu⟩ := as_at hk
      rw [wb_in avs as' ρ nd hk eu (ilt hk)] at h
      injection h with h; injection h with h
      subst h
      obtain ⟨v, e1, e2⟩ := hr k i hk
      obtain ⟨w, e3, ot⟩ := c'.slot k u (by simp [eu])
      have : w = v := by simp [e1] at e3; exact e3.symm
      subst this
      refine ⟨w, e2, ?_⟩
      simp only [fp2, q]; exact ot
    | none =>
      rw [wb_out avs as' ρ (ix_n q)] at h
      obtain ⟨v, e1, ot⟩ := R.co.slot i t h
      refine ⟨v, e1, ?_⟩
      simp only [fp2, q]
      exact ot.mono st.ex (fun a m o e => st.keep a o (nin q m) e) fun a m => by
        obtain ⟨⟨u, e⟩, g0⟩ := ot.here a m
        exact st.hid a u (nin q m) e g0
  · cases q : ix i with
    | some k =>
      have hk := ix_s q
      obtain ⟨u, eu⟩ := as_at hk
      exact absurd (wb_in avs as' ρ nd hk eu (ilt hk)) (h u)
    | none =>
      simp only [fp2, q]
      exact R.co.nil i fun t e => h t (by rw [wb_out avs as' ρ (ix_n q)]; exact e)
  · cases q1 : ix i with
    | some k =>
      simp only [fp2, q1] at h1
      cases q2 : ix j with
      | some l =>
        simp only [fp2, q2] at h2
        have := c'.dis k l a h1 h2
        subst this
        have e1 := ix_s q1
        have e2 := ix_s q2
        rw [e1] at e2
        injection e2 with e2; injection e2
      | none =>
        simp only [fp2, q2] at h2
        rcases inn a ⟨k, h1⟩ with z | z
        · exact (nin q2 h2 z).elim
        · obtain ⟨o, e⟩ := here ⟨j, h2⟩
          rw [z] at e; cases e
    | none =>
      simp only [fp2, q1] at h1
      cases q2 : ix j with
      | some l =>
        simp only [fp2, q2] at h2
        rcases inn a ⟨l, h2⟩ with z | z
        · exact (nin q1 h1 z).elim
        · obtain ⟨o, e⟩ := here ⟨i, h1⟩
          rw [z] at e; cases e
      | none =>
        simp only [fp2, q2] at h2
        exact R.co.dis i j a h1 h2
  · exact (gsub a h).elim (R.own a) (hfr a)
  · obtain ⟨i, m⟩ := h
    have old : H a = none → In B.fp0 a ∨ B.H0 a = none := fun z => by
      by_cases q : In B.fp0 a
      · exact .inl q
      · exact .inr (R.stp.fresh q z)
    cases q : ix i with
    | some k =>
      simp only [fp2, q] at m
      exact (inn a ⟨k, m⟩).elim (fun z => (gsub a z).elim (R.own a) (hfr a)) old
    | none =>
      simp only [fp2, q] at m
      exact R.own a ⟨i, m⟩
  · obtain ⟨v, t, h1, h2, h3⟩ := R.io i m
    cases q : ix i with
    | some k =>
      have hk := ix_s q
      obtain ⟨u, eu⟩ := as_at hk
      exact ⟨v, u, h1, h2, wb_in avs as' ρ nd hk eu (ilt hk)⟩
    | none => exact ⟨v, t, h1, h2, by rw [wb_out avs as' ρ (ix_n q)]; exact h3⟩
  · obtain ⟨i, m⟩ := h
    cases q : ix i with
    | some k =>
      simp only [fp2, q] at m
      rcases inn a ⟨k, m⟩ with z | z
      · exact (gsub a z).elim .inl fun z => .inr (.inr z)
      · exact .inr (.inl z)
    | none =>
      simp only [fp2, q] at m
      exact .inl ⟨i, m⟩
  · obtain ⟨i, m⟩ := h
    cases q : ix i with
    | some k =>
      simp only [fp2, q] at m
      exact .inl ⟨k, m⟩
    | none =>
      simp only [fp2, q] at m
      exact .inr ⟨⟨i, m⟩, nin q m⟩
end
/-! ### a call -/
@[simp] def fCall (F : Ctr) (fa : FAs) : FE := fun ρ Q => fa ρ fun avs ρ1 => ∃ as, resA ρ1 avs = some as ∧ (refs avs).Nodup ∧ F as fun r as' => Q r (wb ρ1 avs as')
theorem de_call {K : PySem.W.Frag} {io : List Nat} {F : Ctr} {fa : FAs} {t : TA} {E : XK} (h : DAs K io t fa) : DE K io (tCall (spD K F) [] E t) (fCall F fa) := by
  intro B G H σ ρ fp Qd Q hB R hf k
  refine h B G H σ ρ fp _ _ hB R hf fun avs ρ1 vs G1 H1 fp1 fr n1 ar t1 t2 ⟨as, ha, nd, hF⟩ => ?_
  obtain ⟨g, cg, hg, l1, l2, hr⟩ := args_co n1.rp.co ar t1 nd ha
  have hfr : ∀ a ∈ fr, In B.fp0 a ∨ B.H0 a = none := fun a m => by
    rcases t2 a m with z | z
    · by_cases q : In B.fp0 a
      · exact .inl q
      · exact .inr (R.stp.fresh q z)
    · exact R.own a z
  show spD K F (vs ++ []) H1 Q E
  rw [List.append_nil]
  refine ⟨G1, as, g, _, cg, hF, fun r as' v G' H' g' fr' c' st inn ot d1 d2 q => ?_⟩
  have hl : as'.length = as.length := by
    have e1 := c'.len
    have e2 := cg.len
    simp at e1 e2
    omega
  obtain ⟨fp2, R2, st2, in2, cl⟩ := back_co n1.rp t1 hfr nd ha hg l2 hr c' st inn hl
  have back : ∀ a, H1 a = none → H a = none ∨ In fp a := fun a z => by
    by_cases q : In fp a
    · exact .inr q
    · exact .inl (n1.st.fresh q z)
  have back1 : ∀ a, In fp1 a → H a = none ∨ In fp a := fun a z => (n1.inn a z).symm
  have old : ∀ a, In g a → In fp1 a ∨ a ∈ fr := fun a ⟨k, m⟩ => (hg k a m).elim (fun ⟨m, _⟩ => .inr m) fun ⟨i, _, m⟩ => .inl ⟨i, m⟩
  have gb : ∀ a, In g a → H a = none ∨ In fp a := fun a z => (old a z).elim (back1 a) (t2 a)
  refine k r _ v G' H' fp2 fr' ⟨R2, n1.st.trans st2 fun a z => z.elim (n1.inn a) fun z => (t2 a z).symm, fun a z => ?_⟩ ot (fun a m z => ?_) (fun a m => ?_) q
  · rcases in2 a z with z | z | z
    · exact (back1 a z).symm
    · exact (back a z).symm
    · exact (t2 a z).symm
  · rcases cl a z with z | ⟨z, nz⟩
    · exact d1 a m z
    · rcases d2 a m with y | y
      · obtain ⟨⟨o, e⟩, _⟩ := n1.rp.co.here z
        rw [y] at e; cases e
      · exact nz y
  · exact (d2 a m).elim (back a) (gb a)
section
variable {X : Cx} {io : List Nat} {x : Str} {ps : List Str} {k : Nat} {F : Ctr} {e : Expr} {es : List Expr} {fa : FAs} {p pos : Pos}
theorem e_call (h : Hs X.prog X.w X.K X.mg X.base x ps k F) (hr : RoomG k X.A) (ha : PDas X io (e :: es) fa) (hg : Gl X x := by rfl) (hdb : (x == ("__debug__" : Str)) = false := by decide)
    (he : starEach (e :: es) X.env = (false, eval e X.env) :: starEach es X.env := by rfl) (hpl : (backTo pos (starEach es X.env)).any (·.1) = false := by rfl) : PDe X io (.Call (.Name x p) (e :: es) [] pos) (fCall F fa) := by
  obtain ⟨f, fd, h1, h2, h3, h4⟩ := h
  obtain ⟨t, a1, a2⟩ := ha
  exact ⟨_, pe_callG h4 hr hg h1 h2 h3 pass0 a1 hdb he hpl, de_call a2⟩
theorem e_call0 (h : Hs X.prog X.w X.K X.mg X.base x ps k F) (hr : RoomG k X.A) (hg : Gl X x := by rfl) (hdb : (x == ("__debug__" : Str)) = false := by decide) : PDe X io (.Call (.Name x p) [] [] pos) (fCall F aNil) := by
  obtain ⟨f, fd, h1, h2, h3, h4⟩ := h
  obtain ⟨t, a1, a2⟩ := (a_nil : PDas X io [] aNil)
  refine ⟨_, pe_callG0 h4 hr hg h1 h2 h3 pass0 hdb, de_call (io := io) (fun B G H σ ρ fp Qd Q hB R hf k => k [] ρ [] G H fp [] (Nxt.refl R) .nil (fun _ z => nomatch z) (fun _ z => nomatch z) hf)⟩
end
end DL

namespace DL
open PySem PySem.Spec PyProof.Rows L2
/-! ### statements -/
structure DEnds where
  nx : Rho → Prop
  rt : SV → Rho → Prop
  bk : Rho → Prop := fun _ => False
  ct : Rho → Prop := fun _ => False
abbrev FS := DEnds → Rho → Prop
structure Sim (K : PySem.W.Frag) (B : Bs) (Dd : DEnds) (Dh : Ends) : Prop where
  nx : ∀ G H σ ρ fp, Rp K B G H σ ρ fp → Dd.nx ρ → Dh.nx σ H
  rt : ∀ G H σ ρ fp r v fr, Rp K B G H σ ρ fp → OT K G H v r fr → (∀ a ∈ fr, ¬ In fp a) → (∀ a ∈ fr, In B.fp0 a ∨ B.H0 a = none) → Dd.rt r ρ → Dh.rt v H
  bk : ∀ G H σ ρ fp, Rp K B G H σ ρ fp → Dd.bk ρ → Dh.bk σ H
  ct : ∀ G H σ ρ fp, Rp K B G H σ ρ fp → Dd.ct ρ → Dh.ct σ H
def DS (K : PySem.W.Frag) (io : List Nat) (t : TS) (fs : FS) : Prop := ∀ (B : Bs) G H σ ρ fp Dd Dh, B.io = io → Rp K B G H σ ρ fp → fs Dd ρ → Sim K B Dd Dh → t Dh σ H
def PDs (X : Cx) (io : List Nat) (st : Stmt) (fs : FS) : Prop := ∃ t, PS X st t ∧ DS X.K io t fs
def PDss (X : Cx) (io : List Nat) (st : List Stmt) (fs : FS) : Prop := ∃ t, PSs X st t ∧ DS X.K io t fs
section
variable {K : PySem.W.Frag} {B : Bs} {σ : L2.St} {G H G' H' : Hp} {ρ ρ' : Rho} {fp fp' : Nat → List Addr}
/-- what a temporary holds is new since the entry -/
theorem Rp.base (R : Rp K B G H σ ρ fp) {fr : List Addr} (h : ∀ a ∈ fr, H a = none ∨ In fp a) : ∀ a ∈ fr, In B.fp0 a ∨ B.H0 a = none := fun a m => by
  rcases h a m with z | z
  · by_cases q : In B.fp0 a
    · exact .inl q
    · exact .inr (R.stp.fresh q z)
  · exact R.own a z
/-- a tree is put into a slot -/
theorem Rp.put {i : Nat} {v : V} {t : SV} {fr : List Addr} (R : Rp K B G H σ ρ fp) (hi : i ∉ B.io) (ot : OT K G H v t fr) (h1 : ∀ a ∈ fr, ¬ In fp a) (h2 : ∀ a ∈ fr, In B.fp0 a ∨ B.H0 a = none) :
    Rp K B G H (σ.set i (some v)) (ρ.set i (some t)) (fun j => if j = i then (if i < ρ.length then fr else []) else fp j) := by
  refine ⟨⟨by rw [List.length_set, List.length_set]; exact R.co.len, R.co.sub, fun j u h => ?_, fun j h => ?_, fun j l a m1 m2 => ?_⟩, R.stp, fun a h => ?_, fun j m => ?_, R.lo⟩
  · by_cases e : j = i
    · subst e
      have hl : j < ρ.length := by
        have := (List.getElem?_eq_some_iff.mp h).1
        simpa using this
      rw [List.getElem?_set_self hl] at h
      injection h with h; injection h with h
      subst h
      exact ⟨v, List.getElem?_set_self (by rw [R.co.len]; exact hl), by simp only [if_pos hl, if_true]; exact ot⟩
    · rw [List.getElem?_set_ne (Ne.symm e)] at h
      obtain ⟨w, e1, o⟩ := R.co.slot j u h
      exact ⟨w, by rw [List.getElem?_set_ne (Ne.symm e)]; exact e1, by simp only [if_neg e]; exact o⟩
  · by_cases e : j = i
    · subst e
      simp only [if_true]
      by_cases hl : j < ρ.length
      · exact absurd (List.getElem?_set_self hl) (h t)
      · exact if_neg hl
    · simp only [if_neg e]
      exact R.co.nil j fun u q => h u (by rw [List.getElem?_set_ne (Ne.symm e)]; exact q)
  · have get : ∀ {j}, a ∈ (if j = i then (if i < ρ.length then fr else []) else fp j) → (j = i ∧ a ∈ fr) ∨ (j ≠ i ∧ a ∈ fp j) := fun {j} m => by
      by_cases e : j = i
      · rw [if_pos e] at m
        by_cases hl : i < ρ.length
        · rw [if_pos hl] at m; exact .inl ⟨e, m⟩
        · rw [if_neg hl] at m; cases m
      · rw [if_neg e] at m; exact .inr ⟨e, m⟩
    rcases get m1 with ⟨e1, m1⟩ | ⟨e1, m1⟩
    · rcases get m2 with ⟨e2, m2⟩ | ⟨e2, m2⟩
      · rw [e1, e2]
      · exact absurd ⟨l, m2⟩ (h1 a m1)
    · rcases get m2 with ⟨e2, m2⟩ | ⟨e2, m2⟩
      · exact absurd ⟨j, m1⟩ (h1 a m2)
      · exact R.co.dis j l a m1 m2
  · obtain ⟨j, m⟩ := h
    by_cases e : j = i
    · simp only [if_pos e] at m
      by_cases hl : i < ρ.length
      · rw [if_pos hl] at m; exact h2 a m
      · rw [if_neg hl] at m; cases m
    · simp only [if_neg e] at m
      exact R.own a ⟨j, m⟩
  · obtain ⟨w, u, e1, e2, e3⟩ := R.io j m
    have ne : i ≠ j := fun e => hi (e ▸ m)
    exact ⟨w, u, e1, by rw [List.getElem?_set_ne ne]; exact e2, by rw [List.getElem?_set_ne ne]; exact e3⟩
theorem Rp.putD {i : Nat} {v : V} {d : DD} (R : Rp K B G H σ ρ fp) (hi : i ∉ B.io) (r : Rq K G v d) : ∃ fp', Rp K B G H (σ.set i (some v)) (ρ.set i (some (.dat d))) fp' :=
  ⟨_, R.put hi (.dat r) (fun _ z => nomatch z) (fun _ z => nomatch z)⟩
end
section
variable {X : Cx} {io : List Nat} {e : Expr} {pos : Pos} {st : Stmt} {rest : List Stmt} {f g : FS}
@[simp] def fNext : FS := fun D ρ => D.nx ρ
@[simp] def fSeq (f g : FS) : FS := fun D ρ => f { D with nx := g D } ρ
theorem ds_next : DS X.K io tNext fNext := fun B G H σ ρ fp Dd Dh hB R hf s => s.nx _ _ _ _ _ R hf
theorem ss_nil : PDss X io [] fNext := ⟨_, pss_nil, ds_next⟩
theorem ss_cons (h1 : PDs X io st f) (h2 : PDss X io rest g) : PDss X io (st :: rest) (fSeq f g) := by
  obtain ⟨t, a1, a2⟩ := h1
  obtain ⟨u, b1, b2⟩ := h2
  exact ⟨_, pss_cons a1 b1, fun B G H σ ρ fp Dd Dh hB R hf s => a2 B G H σ ρ fp _ _ hB R hf ⟨fun G H σ ρ fp R q => b2 B G H σ ρ fp Dd Dh hB R q s, s.rt, s.bk, s.ct⟩⟩
theorem ss_one (h1 : PDs X io st f) : PDss X io [st] f := let ⟨_, a1, a2⟩ := h1; ⟨_, pss_one a1, a2⟩
theorem s_pass : PDs X io (.Pass pos) fNext := ⟨_, ps_pass, ds_next⟩
@[simp] def fBrk : FS := fun D ρ => D.bk ρ
@[simp] def fCont : FS := fun D ρ => D.ct ρ
theorem s_brk : PDs X io (.Break pos) fBrk := ⟨_, ps_break, fun B G H σ ρ fp Dd Dh hB R hf s => s.bk _ _ _ _ _ R hf⟩
theorem s_cont : PDs X io (.Continue pos) fCont := ⟨_, ps_continue, fun B G H σ ρ fp Dd Dh hB R hf s => s.ct _ _ _ _ _ R hf⟩
@[simp] def fNever : FS := fun _ _ => False
theorem s_never : PDs X io st fNever := ⟨_, ps_never, fun B G H σ ρ fp Dd Dh hB R hf s => hf.elim⟩
theorem s_doc {x : Str} {j : Nat} {pos' : Pos} : PDs X io (.Expr (.Constant (.str x) j pos) pos') fNext := ⟨_, ps_doc, ds_next⟩
@[simp] def fDrop (fe : FE) : FS := fun D ρ => fe ρ fun _ ρ1 => D.nx ρ1
theorem s_expr {fe : FE} (h : PDe X io e fe) (hs : swapsWith e none pos.line X.env = pure false := by rfl) : PDs X io (.Expr e pos) (fDrop fe) := by
  obtain ⟨t, a1, a2⟩ := h
  exact ⟨_, ps_expr a1 hs, fun B G H σ ρ fp Dd Dh hB R hf s => a2 B G H σ ρ fp _ _ hB R hf fun r ρ' v G' H' fp' fr n ot t1 t2 q => s.nx _ _ _ _ _ n.rp q⟩
@[simp] def fRet (fe : FE) : FS := fun D ρ => fe ρ D.rt
theorem s_ret {fe : FE} (h : PDe X io e fe) : PDs X io (.Return (some e) pos) (fRet fe) := by
  obtain ⟨t, a1, a2⟩ := h
  exact ⟨_, ps_ret a1, fun B G H σ ρ fp Dd Dh hB R hf s => a2 B G H σ ρ fp _ _ hB R hf fun r ρ' v G' H' fp' fr n ot t1 t2 q => s.rt _ _ _ _ _ _ _ _ n.rp ot t1 (R.base t2) q⟩
@[simp] def fRetN : FS := fun D ρ => D.rt (.dat .non) ρ
theorem s_retN : PDs X io (.Return none pos) fRetN := ⟨_, ps_retN, fun B G H σ ρ fp Dd Dh hB R hf s => s.rt _ _ _ _ _ _ _ [] R (.dat .non) (fun _ z => nomatch z) (fun _ z => nomatch z) hf⟩
@[simp] def fIf (c : FT) (f g : FS) : FS := fun D ρ => c ρ fun b ρ1 => if b = true then f D ρ1 else g D ρ1
theorem s_if {c : Expr} {a b : List Stmt} {fc : FT} (hc : PDt X io c fc) (ha : PDss X io a f) (hb : PDss X io b g) : PDs X io (.If c a b pos) (fIf fc f g) := by
  obtain ⟨_, c1, c2⟩ := hc
  obtain ⟨_, a1, a2⟩ := ha
  obtain ⟨_, b1, b2⟩ := hb
  refine ⟨_, ps_if c1 a1 b1, fun B G H σ ρ fp Dd Dh hB R hf s => ?_⟩
  refine c2 B G H σ ρ fp _ _ hB R hf fun b ρ1 G1 H1 fp1 n q => ?_
  cases b with
  | true => exact a2 B G1 H1 σ ρ1 fp1 Dd Dh hB n.rp q s
  | false => exact b2 B G1 H1 σ ρ1 fp1 Dd Dh hB n.rp q s
/-! x = e -/
@[simp] def fSet (io : List Nat) (i : Nat) (fe : FE) : FS := fun D ρ => fe ρ fun r ρ1 => i ∉ io ∧ D.nx (ρ1.set i (some r))
theorem ds_set {te : TE} {fe : FE} {i : Nat} (h : DE X.K io te fe) : DS X.K io (tAsg te (gName i)) (fSet io i fe) := by
  intro B G H σ ρ fp Dd Dh hB R hf s
  refine h B G H σ ρ fp _ _ hB R hf fun r ρ' v G' H' fp' fr n ot t1 t2 ⟨hi, q⟩ => ?_
  exact s.nx _ _ _ _ _ (n.rp.put (by rw [hB]; exact hi) ot t1 (R.base t2)) q
theorem s_set {i : Nat} {x : Str} {fe : FE} {pos' : Pos} (hN : X.N.Nodup) (h : PDe X io e fe) (hi : X.N[i]? = some x := by rfl) (hx : Loc X.env.scope x := by first | exact Or.inl rfl | exact Or.inr rfl)
    (hs : swapsWith e (some (.Name x pos')) pos.line X.env = pure false := by rfl) (hf : X.fn x = true ∨ X.env.scope.names.lookup x = some .local := by first | exact .inl rfl | exact .inr rfl) : PDs X io (.Assign [.Name x pos'] e pos) (fSet io i fe) := by
  obtain ⟨_, a1, a2⟩ := h
  exact ⟨_, ps_set hN hi hx a1 hs hf, ds_set a2⟩
/-! targets -/
abbrev FG := DD → Rho → (Rho → Prop) → Prop
abbrev FGs := List DD → Rho → (Rho → Prop) → Prop
/-- ks: the slots that are stored -/
def DG (K : PySem.W.Frag) (io ks : List Nat) (g : TG) (fg : FG) : Prop := ∀ (B : Bs) G H σ ρ fp v d (Qd : Rho → Prop) (Q : L2.St → Hp → Prop), B.io = io → Rp K B G H σ ρ fp → Rq K G v d → fg d ρ Qd →
  (∀ σ' ρ' fp', Rp K B G H σ' ρ' fp' → (∀ a, In fp' a → In fp a) → (σ'.length = σ.length ∧ ∀ j, j ∉ ks → σ'[j]? = σ[j]?) → Qd ρ' → Q σ' H) → g v σ H Q
def DGs (K : PySem.W.Frag) (io ks : List Nat) (g : TGs) (fg : FGs) : Prop := ∀ (B : Bs) G H σ ρ fp v d (Qd : Rho → Prop) (Q : L2.St → Hp → Prop), B.io = io → Rp K B G H σ ρ fp → RqA K G v d → fg d ρ Qd →
  (∀ σ' ρ' fp', Rp K B G H σ' ρ' fp' → (∀ a, In fp' a → In fp a) → (σ'.length = σ.length ∧ ∀ j, j ∉ ks → σ'[j]? = σ[j]?) → Qd ρ' → Q σ' H) → g v σ H Q
def PDg (X : Cx) (io ks : List Nat) (e : Expr) (fg : FG) : Prop := ∃ g, PG X e g ∧ DG X.K io ks g fg
def PDgs (X : Cx) (io ks : List Nat) (es : List Expr) (fg : FGs) : Prop := ∃ g, PGs X es g ∧ DGs X.K io ks g fg
@[simp] def gSet (io : List Nat) (i : Nat) : FG := fun d ρ Q => i ∉ io ∧ Q (ρ.set i (some (.dat d)))
theorem t_name {i : Nat} {x : Str} (hN : X.N.Nodup) (hi : X.N[i]? = some x := by rfl) (hx : Loc X.env.scope x := by first | exact Or.inl rfl | exact Or.inr rfl) (hf : X.fn x = true ∨ X.env.scope.names.lookup x = some .local := by first | exact .inl rfl | exact .inr rfl) : PDg X io [i] (.Name x pos) (gSet io i) := by
  refine ⟨_, pg_name (i := i) hN hi hx hf, fun B G H σ ρ fp v d Qd Q hB R r ⟨h, q⟩ k => ?_⟩
  refine k _ _ _ (R.put (i := i) (by rw [hB]; exact h) (.dat r) (fun _ z => nomatch z) (fun _ z => nomatch z)) (fun a ⟨j, m⟩ => ?_) ⟨List.length_set, fun j hj => ?_⟩ q
  · by_cases e : j = i
    · simp [e] at m
    · simp only [if_neg e] at m
      exact ⟨j, m⟩
  · rw [List.getElem?_set_ne fun e => hj (by rw [e]; exact List.mem_cons_self)]
@[simp] def gsNil : FGs := fun ds ρ Q => ds = [] ∧ Q ρ
@[simp] def gsCons (g : FG) (gs : FGs) : FGs := fun ds ρ Q => ∃ d r, ds = d :: r ∧ g d ρ fun ρ1 => gs r ρ1 Q
theorem ts_nil : PDgs X io [] [] gsNil := ⟨_, pgs_nil, fun B G H σ ρ fp v d Qd Q hB R r ⟨h, q⟩ k => by
  subst h
  cases r
  exact ⟨rfl, k _ _ _ R (fun _ h => h) ⟨rfl, fun _ _ => rfl⟩ q⟩⟩
theorem ts_cons {es : List Expr} {ks ks' : List Nat} {g : FG} {gs : FGs} (h1 : PDg X io ks e g) (h2 : PDgs X io ks' es gs) (hs : (assignEach (e :: es) X.env).map (·.2) = assign e X.env :: (assignEach es X.env).map (·.2) := by rfl) : PDgs X io (ks ++ ks') (e :: es) (gsCons g gs) := by
  obtain ⟨_, a1, a2⟩ := h1
  obtain ⟨_, b1, b2⟩ := h2
  refine ⟨_, pgs_cons a1 b1 hs, fun B G H σ ρ fp v d Qd Q hB R r ⟨d0, dr, ed, q⟩ k => ?_⟩
  subst ed
  cases r with
  | cons r0 rr =>
    refine ⟨_, _, rfl, ?_⟩
    exact a2 B G H σ ρ fp _ _ _ _ hB R r0 q fun σ1 ρ1 fp1 R1 i1 s1 q1 => b2 B G H σ1 ρ1 fp1 _ _ _ _ hB R1 rr q1 fun σ2 ρ2 fp2 R2 i2 s2 q2 =>
      k σ2 ρ2 fp2 R2 (fun a h => i1 a (i2 a h)) ⟨s2.1.trans s1.1, fun j hj => (s2.2 j fun m => hj (List.mem_append_right _ m)).trans (s1.2 j fun m => hj (List.mem_append_left _ m))⟩ q2
@[simp] def gTupD (n : Nat) (gs : FGs) : FG := fun d ρ Q => ∃ ds, d = .tup ds ∧ ds.length = n ∧ gs ds ρ Q
theorem t_tup {es : List Expr} {ks : List Nat} {k n : Nat} {gs : FGs} (hc : X.calm = true) (h : PDgs X io ks es gs) (hn : (assignEach es X.env).length = n := by rfl) (hst : (assignEach es X.env).findIdx? (·.1) = none := by rfl) : PDg X io ks (.Tuple es k pos) (gTupD n gs) := by
  obtain ⟨_, a1, a2⟩ := h
  refine ⟨_, pg_tup hc a1 hn hst, fun B G H σ ρ fp v d Qd Q hB R r ⟨ds, ed, hl, q⟩ k => ?_⟩
  subst ed
  obtain ⟨a, xs, ev, hs, rs⟩ := r.tup_inv
  exact ⟨a, xs, ev, R.co.sub.t hs, by rw [rs.length]; exact hl, a2 B G H σ ρ fp _ _ _ _ hB R rs q k⟩
@[simp] def fAsg (fv : FV) (fg : FG) : FS := fun D ρ => fv ρ fun d ρ1 => fg d ρ1 D.nx
theorem s_asg {tg : Expr} {ks : List Nat} {fv : FV} {fg : FG} (h : PDv X io e fv) (hg : PDg X io ks tg fg) (hs : swapsWithSole [tg] e pos.line X.env = pure false := by rfl) (hw : swappedStores [tg] e X.env = pure none := by rfl)
    (h1 : (assignEach [tg] X.env).map (·.2) = [assign tg X.env] := by rfl) : PDs X io (.Assign [tg] e pos) (fAsg fv fg) := by
  obtain ⟨_, a1, a2⟩ := h
  obtain ⟨_, b1, b2⟩ := hg
  refine ⟨_, ps_asg a1 b1 hs hw h1, fun B G H σ ρ fp Dd Dh hB R hf s => ?_⟩
  refine a2 B G H σ ρ fp _ _ hB R hf fun d ρ1 v G1 H1 fp1 n r q => ?_
  exact b2 B G1 H1 σ ρ1 fp1 v d _ _ hB n.rp r q fun σ' ρ' fp' R' _ _ q' => s.nx _ _ _ _ _ R' q'
/-- a, b = x, y -/
@[simp] def fPar (io : List Nat) (i j : Nat) (fs : FSs) : FS := fun D ρ => fs ρ fun ts ρ1 => ∃ t u, ts = [t, u] ∧ i ∉ io ∧ j ∉ io ∧ D.nx ((ρ1.set i (some t)).set j (some u))
theorem OTs.two {K : PySem.W.Frag} {G H : Hp} {vs : List V} {t u : SV} {fr : List Addr} (h : OTs K G H vs [t, u] fr) : ∃ v w f1 f2, vs = [v, w] ∧ OT K G H v t f1 ∧ OT K G H w u f2 ∧ (∀ a ∈ f1, a ∉ f2) ∧ (∀ a ∈ f1, a ∈ fr) ∧ ∀ a ∈ f2, a ∈ fr := by
  cases h with
  | cons a b d =>
    cases b with
    | cons b c d2 =>
      cases c
      exact ⟨_, _, _, _, rfl, a, b, fun x m m' => d x m (List.mem_append_left _ m'), fun x m => List.mem_append_left _ m, fun x m => List.mem_append_right _ (List.mem_append_left _ m)⟩
theorem s_par {i j : Nat} {x y : Str} {a b : Expr} {fs : FSs} {px py pt : Pos} {kt k2 : Nat} {pt2 : Pos} (hc : X.calm = true) (hN : X.N.Nodup) (h : PDs' X io [a, b] fs) (hi : X.N[i]? = some x := by rfl) (hj : X.N[j]? = some y := by rfl) (hij : i ≠ j := by decide)
    (hx : X.env.scope.names.lookup x = some .local := by rfl) (hy : X.env.scope.names.lookup y = some .local := by rfl)
    (hw : swappedStores [.Tuple [.Name x px, .Name y py] kt pt] (.Tuple [a, b] k2 pt2) X.env = pure (some [x, y]) := by rfl)
    (hs : swapsWithSole [.Tuple [.Name x px, .Name y py] kt pt] (.Tuple [a, b] k2 pt2) pos.line X.env = pure false := by rfl) :
    PDs X io (.Assign [.Tuple [.Name x px, .Name y py] kt pt] (.Tuple [a, b] k2 pt2) pos) (fPar io i j fs) := by
  obtain ⟨_, a1, a2⟩ := h
  refine ⟨_, ps_par hc hN hi hj hij hx hy a1 hw hs, fun B G H σ ρ fp Dd Dh hB R hf s => ?_⟩
  refine a2 B G H σ ρ fp _ _ hB R hf fun ts ρ1 vs G1 H1 fp1 fr n os t1 t2 ⟨t, u, et, hi', hj', q⟩ => ?_
  subst et
  obtain ⟨v, w, f1, f2, ev, o1, o2, d12, in1, in2⟩ := os.two
  have hb := R.base t2
  have R1 := n.rp.put (i := i) (by rw [hB]; exact hi') o1 (fun a m => t1 a (in1 a m)) (fun a m => hb a (in1 a m))
  have R2 := R1.put (i := j) (by rw [hB]; exact hj') o2 (fun a m ⟨l, z⟩ => by
    by_cases e : l = i
    · simp only [if_pos e] at z
      by_cases hl : i < ρ1.length
      · rw [if_pos hl] at z; exact d12 a z m
      · rw [if_neg hl] at z; cases z
    · simp only [if_neg e] at z
      exact t1 a (in2 a m) ⟨l, z⟩) (fun a m => hb a (in2 a m))
  exact ⟨v, w, ev, s.nx _ _ _ _ _ R2 q⟩
/-! x op= e (ints) -/
@[simp] def fAug (io : List Nat) (i : Nat) (fv : FV) (op : Int → Int → Int) : FS := fun D ρ => ∃ n, ρ[i]? = some (some (.dat (.int n))) ∧ fv ρ fun d ρ1 => ∃ m, d = .int m ∧ i ∉ io ∧ D.nx (ρ1.set i (some (.dat (.int (op n m)))))
theorem s_aug {i : Nat} {x : Str} {fv : FV} {op : Operator} {g : Int → Int → Int} {pos' : Pos} (hp : PIp X op (ipI g)) (hN : X.N.Nodup) (h : PDv X io e fv) (hi : X.N[i]? = some x := by rfl) (hx : Loc X.env.scope x := by first | exact Or.inl rfl | exact Or.inr rfl)
    (hf : X.fn x = true ∨ X.env.scope.names.lookup x = some .local := by first | exact .inl rfl | exact .inr rfl) : PDs X io (.AugAssign (.Name x pos') op e pos) (fAug io i fv g) := by
  obtain ⟨_, a1, a2⟩ := h
  refine ⟨_, ps_aug hN hi hx a1 hp hf, fun B G H σ ρ fp Dd Dh hB R hf s => ?_⟩
  obtain ⟨n, e1, hf⟩ := hf
  obtain ⟨v, e2, ot⟩ := R.co.slot i _ e1
  obtain ⟨rv, _⟩ := ot.dat_inv
  have := rv.int_inv
  subst this
  refine ⟨_, e2, a2 B G H σ ρ fp _ _ hB R hf fun d ρ1 v1 G1 H1 fp1 nx r ⟨m, ed, hio, q⟩ => ?_⟩
  subst ed
  obtain ⟨fp', R'⟩ := nx.rp.putD (i := i) (v := .int (g n m)) (by rw [hB]; exact hio) (.int _)
  exact ⟨n, m, rfl, r.int_inv, s.nx _ _ _ _ _ R' q⟩
/-! while -/
def fWhile (c : FT) (f : FS) : FS := fun D ρ => ∃ W : Nat → Rho → Prop, (∃ m, W m ρ) ∧ ∀ m ρ, W m ρ → c ρ fun b ρ1 => if b = true then f { D with nx := fun ρ' => ∃ m', m' < m ∧ W m' ρ', ct := fun ρ' => ∃ m', m' < m ∧ W m' ρ', bk := D.nx } ρ1 else D.nx ρ1
theorem s_while {c : Expr} {body : List Stmt} {fc : FT} (hp : PassesOwn (model X.prog X.w) X.A X.env X.xe) (hc : PDt X io c fc) (hb : PDss X io body f) : PDs X io (.While c body [] pos) (fWhile fc f) := by
  obtain ⟨_, c1, c2⟩ := hc
  obtain ⟨_, a1, a2⟩ := hb
  refine ⟨_, ps_while hp c1 a1, fun B G H σ ρ fp Dd Dh hB R hf s => ?_⟩
  obtain ⟨W, ⟨m0, w0⟩, hW⟩ := hf
  refine ⟨fun m σ H => ∃ G ρ fp, Rp X.K B G H σ ρ fp ∧ W m ρ, ⟨m0, G, ρ, fp, R, w0⟩, ?_⟩
  rintro m σ1 H1 ⟨G1, ρ1, fp1, R1, w1⟩
  refine c2 B G1 H1 σ1 ρ1 fp1 _ _ hB R1 (hW m ρ1 w1) fun b ρ2 G2 H2 fp2 n2 q => ?_
  cases b with
  | true =>
    rw [if_pos rfl] at q ⊢
    refine ⟨fun σ H => ∃ G ρ fp, Rp X.K B G H σ ρ fp ∧ ∃ m', m' < m ∧ W m' ρ, fun σ' H' ⟨G', ρ', fp', R', m', hm, w'⟩ => ⟨m', hm, G', ρ', fp', R', w'⟩, ?_⟩
    · exact a2 B G2 H2 σ1 ρ2 fp2 _ _ hB n2.rp q ⟨fun G H σ ρ fp R z => ⟨G, ρ, fp, R, z⟩, s.rt, fun G H σ ρ fp R z => s.nx G H σ ρ fp R z, fun G H σ ρ fp R z => ⟨G, ρ, fp, R, z⟩⟩
  | false =>
    rw [if_neg Bool.false_ne_true] at q ⊢
    exact s.nx _ _ _ _ _ n2.rp q
/-! for: what is walked -/
abbrev FI := Rho → (List DD → Rho → Prop) → Prop
/-- an iterator over told items -/
def DJ (K : PySem.W.Frag) (J : It) (G : Hp) (ds : List DD) : Prop := ∀ (B : Bs) (i : Nat) G' H' σ ρ fp, Sub G G' → Rp K B G' H' σ ρ fp →
  (ds.length ≤ i → J.stop i H') ∧ ∀ d, ds[i]? = some d → J.go i H' ∧ ∀ x H'', J.yld i H' x H'' → ∃ G'', Nxt K B σ G' H' fp G'' H'' ρ fp ∧ Rq K G'' x d
def DI (K : PySem.W.Frag) (io : List Nat) (wi : TI) (fi : FI) : Prop := ∀ (B : Bs) G H σ ρ fp (Qd : List DD → Rho → Prop) (R : It → Hp → Prop), B.io = io → Rp K B G H σ ρ fp → fi ρ Qd →
  (∀ ds ρ' J G' H' fp', Nxt K B σ G H fp G' H' ρ' fp' → DJ K J G' ds → Qd ds ρ' → R J H') → wi σ H R
def PDi (X : Cx) (io : List Nat) (tg e : Expr) (fi : FI) : Prop := ∃ wi, PI X tg e wi ∧ DI X.K io wi fi
end
end DL

namespace DL
open PySem PySem.Spec PyProof.Rows L2
section
variable {K : PySem.W.Frag} {G : Hp}
theorem dj_list {a : Addr} {xs : List V} {ds : List DD} (h : Rd G a (.lst xs)) (r : RqA K G xs ds) : DJ K (Itl K a) G ds := fun B i G' H' σ ρ fp s R => by
  have hl : SqL K H' a xs := .inl (R.co.sub.rd (s.rd h))
  refine ⟨fun le => ⟨xs, hl, by rw [r.length]; exact le⟩, fun d e => ?_⟩
  obtain ⟨v, ev, rv⟩ := r.get e
  refine ⟨⟨xs, v, hl, ev⟩, fun x H'' y => ?_⟩
  obtain ⟨rfl, y⟩ := y
  have := y xs hl
  rw [ev] at this
  injection this with this
  subst this
  exact ⟨G', Nxt.refl R, rv.mono s⟩
theorem dj_tup {a : Addr} {xs : List V} {ds : List DD} (h : SqT K G a xs) (r : RqA K G xs ds) : DJ K (Itt K a) G ds := fun B i G' H' σ ρ fp s R => by
  have hl : SqT K H' a xs := R.co.sub.t (s.t h)
  refine ⟨fun le => ⟨xs, hl, by rw [r.length]; exact le⟩, fun d e => ?_⟩
  obtain ⟨v, ev, rv⟩ := r.get e
  refine ⟨⟨xs, v, hl, ev⟩, fun x H'' y => ?_⟩
  obtain ⟨rfl, y⟩ := y
  have := y xs hl
  rw [ev] at this
  injection this with this
  subst this
  exact ⟨G', Nxt.refl R, rv.mono s⟩
def rgD (lo c : Int) (n : Nat) : List DD := (List.range n).map fun (i : Nat) => DD.int (lo + ((i : Nat) : Int) * c)
theorem dj_rangeC {lo c : Int} {n : Nat} : DJ K (Itc lo c n) G (rgD lo c n) := fun B i G' H' σ ρ fp s R => by
  refine ⟨fun le => by simpa [rgD, Itc] using le, fun d e => ?_⟩
  have hi : i < n := by
    have := (List.getElem?_eq_some_iff.mp e).1
    simpa [rgD] using this
  have ed : d = .int (lo + (i : Int) * c) := by
    simp [rgD, List.getElem?_map, List.getElem?_range hi] at e
    exact e.symm
  refine ⟨hi, fun x H'' y => ?_⟩
  obtain ⟨rfl, rfl⟩ := y
  exact ⟨G', Nxt.refl R, by rw [ed]; exact .int _⟩
theorem dj_range {lo : Int} {n : Nat} : DJ K (Itr lo n) G (rgD lo 1 n) := fun B i G' H' σ ρ fp s R => by
  refine ⟨fun le => by simpa [rgD, Itr] using le, fun d e => ?_⟩
  have hi : i < n := by
    have := (List.getElem?_eq_some_iff.mp e).1
    simpa [rgD] using this
  have ed : d = .int (lo + (i : Int)) := by
    simp [rgD, List.getElem?_map, List.getElem?_range hi] at e
    exact e.symm
  refine ⟨hi, fun x H'' y => ?_⟩
  obtain ⟨rfl, rfl⟩ := y
  exact ⟨G', Nxt.refl R, by rw [ed]; exact .int _⟩
def strD (x : Str) : List DD := x.cps.toList.map fun c => DD.str ⟨#[c]⟩
theorem dj_str {x : Str} : DJ K (Its x) G (strD x) := fun B i G' H' σ ρ fp s R => by
  refine ⟨fun le => by simpa [strD, Its] using le, fun d e => ?_⟩
  have hi : i < x.cps.size := by
    have := (List.getElem?_eq_some_iff.mp e).1
    simpa [strD] using this
  have ed : d = .str ⟨#[x.cps[i]]⟩ := by
    simp [strD, List.getElem?_map, hi] at e
    exact e.symm
  refine ⟨hi, fun y H'' h => ?_⟩
  obtain ⟨rfl, c, ec, rfl⟩ := h
  have : c = x.cps[i] := by simp [hi] at ec; exact ec.symm
  subst this
  exact ⟨G', Nxt.refl R, by rw [ed]; exact .str _⟩
def enumD (ds : List DD) : List DD := ds.zipIdx.map fun p => DD.tup [.int (p.2 : Nat), p.1]
theorem enumD_get {ds : List DD} {i : Nat} {d : DD} (e : (enumD ds)[i]? = some d) : ∃ z, ds[i]? = some z ∧ d = .tup [.int (i : Nat), z] := by
  unfold enumD at e
  rw [List.getElem?_map, List.getElem?_zipIdx] at e
  cases q : ds[i]? with
  | none => rw [q] at e; cases e
  | some z => rw [q] at e; simp at e; exact ⟨z, rfl, e.symm⟩
@[simp] theorem enumD_len (ds : List DD) : (enumD ds).length = ds.length := by simp [enumD]
theorem dj_enum {a : Addr} {xs : List V} {ds : List DD} (h : Rd G a (.lst xs)) (r : RqA K G xs ds) : DJ K (Ite K a) G (enumD ds) := fun B i G' H' σ ρ fp s R => by
  have hl : SqL K H' a xs := .inl (R.co.sub.rd (s.rd h))
  refine ⟨fun le => ⟨xs, hl, by rw [r.length]; rw [enumD_len] at le; exact le⟩, fun d e => ?_⟩
  obtain ⟨z, ez, rfl⟩ := enumD_get e
  obtain ⟨v, ev, rv⟩ := r.get ez
  refine ⟨⟨xs, v, hl, ev⟩, fun x H'' y => ?_⟩
  obtain ⟨T, w, rfl, hT, rfl, y⟩ := y
  have := y xs hl
  rw [ev] at this
  injection this with this
  subst this
  have n := Nxt.stand R (o := .tup [.int (i : Nat), v]) hT
  exact ⟨_, n, .tup (.inl (.inl upd_same)) (.cons (.int _) (.cons ((rv.mono s).mono n.st.ex) .nil))⟩
def zipD (xs ys : List DD) : List DD := (xs.zip ys).map fun p => DD.tup [p.1, p.2]
theorem zipD_get {xs ys : List DD} {i : Nat} {d : DD} (e : (zipD xs ys)[i]? = some d) : ∃ x y, xs[i]? = some x ∧ ys[i]? = some y ∧ d = .tup [x, y] := by
  unfold zipD at e
  rw [List.getElem?_map] at e
  cases q : (xs.zip ys)[i]? with
  | none => rw [q] at e; cases e
  | some z =>
    rw [q] at e
    obtain ⟨h1, h2⟩ := List.getElem?_zip_eq_some.mp q
    exact ⟨z.1, z.2, h1, h2, by simp at e; exact e.symm⟩
theorem zipD_len (xs ys : List DD) : (zipD xs ys).length = min xs.length ys.length := by simp [zipD]
theorem dj_zip {a b : Addr} {xs ys : List V} {ds es : List DD} (h : Rd G a (.lst xs)) (r : RqA K G xs ds) (h2 : Rd G b (.lst ys)) (r2 : RqA K G ys es) : DJ K (Itz K a b) G (zipD ds es) := fun B i G' H' σ ρ fp s R => by
  have hl : SqL K H' a xs := .inl (R.co.sub.rd (s.rd h))
  have hl2 : SqL K H' b ys := .inl (R.co.sub.rd (s.rd h2))
  refine ⟨fun le => ⟨xs, ys, hl, hl2, by rw [r.length, r2.length]; rw [zipD_len] at le; omega⟩, fun d e => ?_⟩
  obtain ⟨x, y, ex, ey, rfl⟩ := zipD_get e
  obtain ⟨v, ev, rv⟩ := r.get ex
  obtain ⟨w, ew, rw'⟩ := r2.get ey
  refine ⟨⟨xs, ys, v, w, hl, hl2, ev, ew⟩, fun x H'' q => ?_⟩
  obtain ⟨T, v', w', rfl, hT, rfl, q1, q2⟩ := q
  have e1 := q1 xs hl
  have e2 := q2 ys hl2
  rw [ev] at e1
  rw [ew] at e2
  injection e1 with e1
  injection e2 with e2
  subst e1 e2
  have n := Nxt.stand R (o := .tup [v, w]) hT
  exact ⟨_, n, .tup (.inl (.inl upd_same)) (.cons ((rv.mono s).mono n.st.ex) (.cons ((rw'.mono s).mono n.st.ex) .nil))⟩
end
section
variable {X : Cx} {io : List Nat} {e a b c tg : Expr} {pos p : Pos} {fv : FV} {fos : FOs}
/-- a list, a tuple, a text -/
@[simp] def iLst (fv : FV) : FI := fun ρ Q => fv ρ fun d ρ1 => ∃ ds, d = .lst ds ∧ Q ds ρ1
@[simp] def iTpl (fv : FV) : FI := fun ρ Q => fv ρ fun d ρ1 => ∃ ds, d = .tup ds ∧ Q ds ρ1
@[simp] def iStrD (fv : FV) : FI := fun ρ Q => fv ρ fun d ρ1 => ∃ x, d = .str x ∧ Q (strD x) ρ1
theorem i_lst (h : PDv X io e fv) : PDi X io tg e (iLst fv) := by
  obtain ⟨_, a1, a2⟩ := h
  refine ⟨_, pi_list a1, fun B G H σ ρ fp Qd Rr hB R hf k => ?_⟩
  refine a2 B G H σ ρ fp _ _ hB R hf fun d ρ1 v G1 H1 fp1 n r ⟨ds, ed, q⟩ => ?_
  subst ed
  obtain ⟨p, xs, ev, h, rs⟩ := r.lst_inv
  exact ⟨p, ev, ⟨xs, .inl (n.rp.co.sub.rd h)⟩, k _ _ _ _ _ _ n (dj_list h rs) q⟩
theorem i_tpl (h : PDv X io e fv) : PDi X io tg e (iTpl fv) := by
  obtain ⟨_, a1, a2⟩ := h
  refine ⟨_, pi_tup a1, fun B G H σ ρ fp Qd Rr hB R hf k => ?_⟩
  refine a2 B G H σ ρ fp _ _ hB R hf fun d ρ1 v G1 H1 fp1 n r ⟨ds, ed, q⟩ => ?_
  subst ed
  obtain ⟨p, xs, ev, h, rs⟩ := r.tup_inv
  exact ⟨p, ev, ⟨xs, n.rp.co.sub.t h⟩, k _ _ _ _ _ _ n (dj_tup h rs) q⟩
theorem i_str (h : PDv X io e fv) : PDi X io tg e (iStrD fv) := by
  obtain ⟨_, a1, a2⟩ := h
  refine ⟨_, pi_str a1, fun B G H σ ρ fp Qd Rr hB R hf k => ?_⟩
  refine a2 B G H σ ρ fp _ _ hB R hf fun d ρ1 v G1 H1 fp1 n r ⟨x, ed, q⟩ => ?_
  subst ed
  exact ⟨x, r.str_inv, k _ _ _ _ _ _ n dj_str q⟩
theorem Paired.rqOne {K : PySem.W.Frag} {B : Bs} {σ : L2.St} {G H : Hp} {ρ : Rho} {fp : Nat → List Addr} (R : Rp K B G H σ ρ fp) {vs : List V} {os : List OV} {d : DD} (h : Paired (OVR K G σ) vs os) (e : resDs ρ os = some [d]) : ∃ v, vs = [v] ∧ Rq K H v d := (Paired.rqH R h e).one
@[simp] def iRg1 (fos : FOs) : FI := fun ρ Q => fos ρ fun os ρ1 => ∃ j : Int, resDs ρ1 os = some [.int j] ∧ -(2 ^ 62) ≤ j ∧ j < 2 ^ 62 ∧ Q (rgD 0 1 j.toNat) ρ1
theorem i_rg1 (hm : X.mg "range" = none) (h : PDos X io [a] fos) (hg : Gl X "range" := by rfl) (hs : starEach [a] X.env = [(false, eval a X.env)] := by rfl) : PDi X io tg (.Call (.Name "range" p) [a] [] pos) (iRg1 fos) := by
  obtain ⟨_, a1, a2⟩ := h
  refine ⟨_, pi_range1 hg hm a1 hs, fun B G H σ ρ fp Qd Rr hB R hf k => ?_⟩
  refine a2 B G H σ ρ fp _ _ hB R hf fun os ρ1 vs G1 H1 fp1 n o ⟨j, e, l1, l2, q⟩ => ?_
  obtain ⟨v, rfl, r⟩ := Paired.rqOne n.rp o e
  exact ⟨j, by rw [r.int_inv], l1, l2, k _ _ _ _ _ _ n dj_range q⟩
@[simp] def iRg2 (fos : FOs) : FI := fun ρ Q => fos ρ fun os ρ1 => ∃ i j : Int, resDs ρ1 os = some [.int i, .int j] ∧ (-(2 ^ 62) ≤ i ∧ i < 2 ^ 62 ∧ -(2 ^ 62) ≤ j ∧ j < 2 ^ 62) ∧ Q (rgD i 1 (j - i).toNat) ρ1
theorem i_rg2 (hm : X.mg "range" = none) (h : PDos X io [a, b] fos) (hg : Gl X "range" := by rfl) (hs : starEach [a, b] X.env = [(false, eval a X.env), (false, eval b X.env)] := by rfl) (hs2 : starEach [b] X.env = [(false, eval b X.env)] := by rfl) : PDi X io tg (.Call (.Name "range" p) [a, b] [] pos) (iRg2 fos) := by
  obtain ⟨_, a1, a2⟩ := h
  refine ⟨_, pi_range2 hg hm a1 hs hs2, fun B G H σ ρ fp Qd Rr hB R hf k => ?_⟩
  refine a2 B G H σ ρ fp _ _ hB R hf fun os ρ1 vs G1 H1 fp1 n o ⟨i, j, e, l, q⟩ => ?_
  obtain ⟨v, w, rfl, r, r2⟩ := (Paired.rqH n.rp o e).two
  exact ⟨i, j, by rw [r.int_inv, r2.int_inv], l, k _ _ _ _ _ _ n dj_range q⟩
@[simp] def iRg3 (fos : FOs) : FI := fun ρ Q => fos ρ fun os ρ1 => ∃ (i j c : Int) (n : Nat), resDs ρ1 os = some [.int i, .int j, .int c] ∧ RgC i j c n ∧ Q (rgD i c n) ρ1
theorem RqA.three {K : PySem.W.Frag} {G : Hp} {xs : List V} {d e f : DD} (h : RqA K G xs [d, e, f]) : ∃ x y z, xs = [x, y, z] ∧ Rq K G x d ∧ Rq K G y e ∧ Rq K G z f := by
  cases h with
  | cons a b => cases b with | cons b c => cases c with | cons c d => cases d; exact ⟨_, _, _, rfl, a, b, c⟩
theorem i_rg3 (hm : X.mg "range" = none) (h : PDos X io [a, b, c] fos) (hg : Gl X "range" := by rfl) (hs : starEach [a, b, c] X.env = (false, eval a X.env) :: starEach [b, c] X.env := by rfl) (hpl : (backTo pos (starEach [b, c] X.env)).any (·.1) = false := by rfl) : PDi X io tg (.Call (.Name "range" p) [a, b, c] [] pos) (iRg3 fos) := by
  obtain ⟨_, a1, a2⟩ := h
  refine ⟨_, pi_range3 hg hm a1 hs hpl, fun B G H σ ρ fp Qd Rr hB R hf k => ?_⟩
  refine a2 B G H σ ρ fp _ _ hB R hf fun os ρ1 vs G1 H1 fp1 n o ⟨i, j, c, m, e, l, q⟩ => ?_
  obtain ⟨v, w, u, rfl, r, r2, r3⟩ := (Paired.rqH n.rp o e).three
  exact ⟨i, j, c, m, by rw [r.int_inv, r2.int_inv, r3.int_inv], l, k _ _ _ _ _ _ n dj_rangeC q⟩
/-- enumerate(e), zip(a, b): data lists -/
abbrev FDs := Rho → (List DD → Rho → Prop) → Prop
@[simp] def sD (fs : FSs) : FDs := fun ρ Q => fs ρ fun ts ρ1 => Q (ts.map SV.data) ρ1
@[simp] def iEn (fs : FSs) : FI := fun ρ Q => sD fs ρ fun ds ρ1 => ∃ l, ds = [.lst l] ∧ Q (enumD l) ρ1
theorem ds_sealed {ta : TA} {fs : FSs} (h : DSv X.K io ta fs) : ∀ (B : Bs) G H σ ρ fp (Qd : List DD → Rho → Prop) (Q : List V → Hp → Prop), B.io = io → Rp X.K B G H σ ρ fp → sD fs ρ Qd →
    (∀ ds ρ' vs G' H' fp', Nxt X.K B σ G H fp G' H' ρ' fp' → RqA X.K G' vs ds → Qd ds ρ' → Q vs H') → ta σ H Q := fun B G H σ ρ fp Qd Q hB R hf k =>
  h B G H σ ρ fp _ _ hB R hf fun ts ρ' vs G' H' fp' fr n os t1 t2 q => by
    obtain ⟨n2, r⟩ := Nxt.sealeds R n os t1 t2
    exact k _ _ _ _ _ _ n2 r q
theorem i_en {elts : List Expr} {kk : Nat} {tpos : Pos} {fs : FSs} (hm : X.mg "enumerate" = none) (h : PDs' X io [e] fs) (hg : Gl X "enumerate" := by rfl) (hs : starEach [e] X.env = [(false, eval e X.env)] := by rfl) : PDi X io (.Tuple elts kk tpos) (.Call (.Name "enumerate" p) [e] [] pos) (iEn fs) := by
  obtain ⟨_, a1, a2⟩ := h
  refine ⟨_, pi_enum hg hm a1 hs, fun B G H σ ρ fp Qd Rr hB R hf k => ?_⟩
  refine ds_sealed a2 B G H σ ρ fp _ _ hB R hf fun ds ρ1 vs G1 H1 fp1 n r ⟨l, ed, q⟩ => ?_
  subst ed
  obtain ⟨v, rfl, r1⟩ := r.one
  obtain ⟨p, xs, ev, h, rs⟩ := r1.lst_inv
  exact ⟨p, xs, by rw [ev], .inl (n.rp.co.sub.rd h), k _ _ _ _ _ _ n (dj_enum h rs) q⟩
@[simp] def iZp (fs : FSs) : FI := fun ρ Q => sD fs ρ fun ds ρ1 => ∃ l m, ds = [.lst l, .lst m] ∧ Q (zipD l m) ρ1
theorem i_zp {elts : List Expr} {kk : Nat} {tpos : Pos} {fs : FSs} (hm : X.mg "zip" = none) (h : PDs' X io [a, b] fs) (hg : Gl X "zip" := by rfl) (hs : starEach [a, b] X.env = (false, eval a X.env) :: starEach [b] X.env := by rfl) (hpl : (backTo pos (starEach [b] X.env)).any (·.1) = false := by rfl) :
    PDi X io (.Tuple elts kk tpos) (.Call (.Name "zip" p) [a, b] [] pos) (iZp fs) := by
  obtain ⟨_, a1, a2⟩ := h
  refine ⟨_, pi_zip hg hm a1 hs hpl, fun B G H σ ρ fp Qd Rr hB R hf k => ?_⟩
  refine ds_sealed a2 B G H σ ρ fp _ _ hB R hf fun ds ρ1 vs G1 H1 fp1 n r ⟨l, m, ed, q⟩ => ?_
  subst ed
  obtain ⟨v, w, rfl, r1, r2⟩ := r.two
  obtain ⟨p, xs, ev, h, rs⟩ := r1.lst_inv
  obtain ⟨p2, ys, ew, h2, rs2⟩ := r2.lst_inv
  exact ⟨p, p2, xs, ys, by rw [ev, ew], .inl (n.rp.co.sub.rd h), .inl (n.rp.co.sub.rd h2), k _ _ _ _ _ _ n (dj_zip h rs h2 rs2) q⟩
/-! for -/
def fFor (fi : FI) (fg : FG) (f : FS) : FS := fun D ρ => fi ρ fun ds ρ1 => ∃ W : Nat → Rho → Prop, W 0 ρ1 ∧ (∀ (i : Nat) d ρ, ds[i]? = some d → W i ρ → fg d ρ fun ρ2 => f { D with nx := W (i + 1), ct := W (i + 1), bk := D.nx } ρ2) ∧ ∀ ρ, W ds.length ρ → D.nx ρ
/-- another floor -/
theorem Rp.floor {K : PySem.W.Frag} {B : Bs} {G H : Hp} {σ : L2.St} {ρ : Rho} {fp : Nat → List Addr} (R : Rp K B G H σ ρ fp) {L : Hp} (h : Sub L G) : Rp K { B with L := L } G H σ ρ fp := ⟨R.co, R.stp, R.own, R.io, h⟩
theorem Rp.unfloor {K : PySem.W.Frag} {B : Bs} {G H : Hp} {σ : L2.St} {ρ : Rho} {fp : Nat → List Addr} {L : Hp} (R : Rp K { B with L := L } G H σ ρ fp) (h : Sub B.L L) : Rp K B G H σ ρ fp := ⟨R.co, R.stp, R.own, R.io, h.trans R.lo⟩
theorem s_for {body : List Stmt} {fi : FI} {fg : FG} {f : FS} (hp : PassesOwn (model X.prog X.w) X.A X.env X.xe) (hc : X.calm = true) {ks : List Nat} (hi : PDi X io tg e fi) (hg : PDg X io ks tg fg) (hb : PDss X io body f) (hs : ∀ x, foldedSetIterable e X.env x = pure x := by intro _; rfl) :
    PDs X io (.For tg e body [] pos) (fFor fi fg f) := by
  obtain ⟨_, a1, a2⟩ := hi
  obtain ⟨_, b1, b2⟩ := hg
  obtain ⟨_, c1, c2⟩ := hb
  refine ⟨_, ps_for hp hc a1 b1 c1 hs, fun B G H σ ρ fp Dd Dh hB R hf s => ?_⟩
  refine a2 B G H σ ρ fp _ _ hB R hf fun ds ρ1 J G1 H1 fp1 n dj ⟨W, w0, hw, hd⟩ => ?_
  have lo : Sub B.L G1 := n.rp.lo
  refine ⟨fun i m σ H => m = ds.length - i ∧ i ≤ ds.length ∧ ∃ G ρ fp, Rp X.K { B with L := G1 } G H σ ρ fp ∧ W i ρ, ⟨_, rfl, Nat.zero_le _, G1, ρ1, fp1, n.rp.floor (Sub.refl _), w0⟩, ?_⟩
  rintro i m σ2 H2 ⟨rfl, hi, G2, ρ2, fp2, R2, w2⟩
  obtain ⟨j1, j2⟩ := dj _ i G2 H2 σ2 ρ2 fp2 R2.lo R2
  by_cases hlt : i < ds.length
  · obtain ⟨d, ed⟩ : ∃ d, ds[i]? = some d := ⟨ds[i], List.getElem?_eq_getElem hlt⟩
    obtain ⟨go, y⟩ := j2 d ed
    refine .inr ⟨go, fun σ' H' => ∃ G ρ fp, Rp X.K { B with L := G1 } G H' σ' ρ fp ∧ W (i + 1) ρ, fun σ' H' q => ⟨ds.length - (i + 1), by omega, rfl, hlt, q⟩, fun x H3 yx => ?_⟩
    obtain ⟨G3, n3, r3⟩ := y x H3 yx
    refine b2 _ G3 H3 σ2 ρ2 fp2 x d _ _ (by exact hB) n3.rp r3 (hw i d ρ2 ed w2) fun σ4 ρ4 fp4 R4 _ _ q4 => ?_
    exact c2 _ G3 H3 σ4 ρ4 fp4 _ _ (by exact hB) R4 q4 ⟨fun G H σ ρ fp R z => ⟨G, ρ, fp, R, z⟩, fun G H σ ρ fp r v fr R o t1 t2 z => s.rt G H σ ρ fp r v fr (R.unfloor lo) o t1 t2 z, fun G H σ ρ fp R z => s.nx G H σ ρ fp (R.unfloor lo) z, fun G H σ ρ fp R z => ⟨G, ρ, fp, R, z⟩⟩
  · have e : i = ds.length := by omega
    subst e
    exact .inl ⟨j1 (Nat.le_refl _), s.nx _ _ _ _ _ (R2.unfloor lo) (hd ρ2 w2)⟩
end
end DL

namespace DL
open PySem PySem.Spec PyProof.Rows L2
/-! ### list comprehensions -/
def canE (K : PySem.W.Frag) (io : List Nat) (fe : FE) : TE := fun σ H Q => ∃ (B : Bs) (G : Hp) (ρ : Rho) (fp : Nat → List Addr) (Qd : SV → Rho → Prop), B.io = io ∧ Rp K B G H σ ρ fp ∧ fe ρ Qd ∧
  ∀ r ρ' v G' H' fp' fr, Nxt K B σ G H fp G' H' ρ' fp' → OT K G' H' v r fr → (∀ a ∈ fr, ¬ In fp' a) → (∀ a ∈ fr, H a = none ∨ In fp a) → Qd r ρ' → Q v H'
def canT (K : PySem.W.Frag) (io : List Nat) (ft : FT) : TT := fun σ H Q => ∃ (B : Bs) (G : Hp) (ρ : Rho) (fp : Nat → List Addr) (Qd : Bool → Rho → Prop), B.io = io ∧ Rp K B G H σ ρ fp ∧ ft ρ Qd ∧
  ∀ b ρ' G' H' fp', Nxt K B σ G H fp G' H' ρ' fp' → Qd b ρ' → Q b H'
def canG (K : PySem.W.Frag) (io ks : List Nat) (fg : FG) : TG := fun v σ H Q => ∃ (B : Bs) (G : Hp) (ρ : Rho) (fp : Nat → List Addr) (d : DD) (Qd : Rho → Prop), B.io = io ∧ Rp K B G H σ ρ fp ∧ Rq K G v d ∧ fg d ρ Qd ∧
  ∀ σ' ρ' fp', Rp K B G H σ' ρ' fp' → (∀ a, In fp' a → In fp a) → (σ'.length = σ.length ∧ ∀ j, j ∉ ks → σ'[j]? = σ[j]?) → Qd ρ' → Q σ' H
section
variable {X : Cx} {io ks : List Nat} {e : Expr}
theorem PDe.can {fe : FE} (h : PDe X io e fe) : PE X e (canE X.K io fe) := by
  obtain ⟨te, h1, h2⟩ := h
  exact ⟨fun pins s σ H Q I ⟨B, G, ρ, fp, Qd, hB, R, hf, k⟩ => h1.run pins s σ H Q I (h2 B G H σ ρ fp Qd Q hB R hf k)⟩
theorem PDg.can {fg : FG} (h : PDg X io ks e fg) : PG X e (canG X.K io ks fg) := by
  obtain ⟨te, h1, h2⟩ := h
  exact ⟨fun pins s σ H v u Q I r ⟨B, G, ρ, fp, d, Qd, hB, R, rq, hf, k⟩ => h1.run pins s σ H v u Q I r (h2 B G H σ ρ fp v d Qd Q hB R rq hf k)⟩
def PDts (X : Cx) (io : List Nat) (ifs : List Expr) (ft : FT) : Prop := ∃ tt, PTs X ifs tt ∧ DT X.K io tt ft
@[simp] def fYes : FT := fun ρ Q => Q true ρ
theorem ifs_nil : PDts X io [] fYes := ⟨_, pts_nil, fun B G H σ ρ fp Qd Q hB R hf k => k true ρ G H fp (Nxt.refl R) hf⟩
theorem ifs_one {c : Expr} {ft : FT} (h : PDt X io c ft) : PDts X io [c] ft := let ⟨_, a, b⟩ := h; ⟨_, pts_one a, b⟩
theorem PDts.can {ifs : List Expr} {ft : FT} (h : PDts X io ifs ft) : PTs X ifs (canT X.K io ft) := by
  obtain ⟨te, h1, h2⟩ := h
  exact ⟨fun pins s σ H Q I ⟨B, G, ρ, fp, Qd, hB, R, hf, k⟩ => h1.run pins s σ H Q I (h2 B G H σ ρ fp Qd Q hB R hf k)⟩
end
def wipeR (ρ : Rho) : List Nat → Rho
  | [] => ρ
  | v :: vs => (wipeR ρ vs).set v none
def unwipe (ρ4 ρ : Rho) : List Nat → Rho
  | [] => ρ4
  | v :: vs => (unwipe ρ4 ρ vs).set v (ρ[v]?.join)
def plainB (ρ : Rho) (vs : List Nat) : Bool := vs.all fun v => match ρ[v]? with
  | some (some (.dat _)) => true
  | some (some _) => false
  | _ => true
theorem wipe_len (σ : L2.St) (vs : List Nat) : (wipe σ vs).length = σ.length := wipe_length σ vs
theorem wipeR_len (ρ : Rho) : ∀ vs, (wipeR ρ vs).length = ρ.length
  | [] => rfl
  | v :: vs => by rw [wipeR, List.length_set, wipeR_len ρ vs]
theorem unwipe_len (ρ4 ρ : Rho) : ∀ vs, (unwipe ρ4 ρ vs).length = ρ4.length
  | [] => rfl
  | v :: vs => by rw [unwipe, List.length_set, unwipe_len ρ4 ρ vs]
theorem wipeR_out {ρ : Rho} {j : Nat} : ∀ {vs}, j ∉ vs → (wipeR ρ vs)[j]? = ρ[j]?
  | [], _ => rfl
  | v :: vs, h => by
    rw [wipeR, List.getElem?_set_ne (fun e => h (by rw [e]; exact List.mem_cons_self)), wipeR_out fun m => h (List.mem_cons_of_mem _ m)]
theorem wipeR_in {ρ : Rho} {j : Nat} {t : SV} : ∀ {vs}, j ∈ vs → (wipeR ρ vs)[j]? ≠ some (some t)
  | v :: vs, h => by
    rw [wipeR]
    by_cases e : v = j
    · subst e
      by_cases hl : v < (wipeR ρ vs).length
      · rw [List.getElem?_set_self hl]; simp
      · rw [List.getElem?_eq_none (by simpa using hl)]; simp
    · rw [List.getElem?_set_ne e]
      rcases List.mem_cons.mp h with z | z
      · exact absurd z.symm e
      · exact wipeR_in z
theorem unwipe_out {ρ4 ρ : Rho} {j : Nat} : ∀ {vs}, j ∉ vs → (unwipe ρ4 ρ vs)[j]? = ρ4[j]?
  | [], _ => rfl
  | v :: vs, h => by
    rw [unwipe, List.getElem?_set_ne (fun e => h (by rw [e]; exact List.mem_cons_self)), unwipe_out fun m => h (List.mem_cons_of_mem _ m)]
theorem unwipe_in {ρ4 ρ : Rho} {j : Nat} {t : SV} : ∀ {vs}, j ∈ vs → (unwipe ρ4 ρ vs)[j]? = some (some t) → ρ[j]? = some (some t)
  | v :: vs, h, e => by
    rw [unwipe] at e
    by_cases ev : v = j
    · subst ev
      by_cases hl : v < (unwipe ρ4 ρ vs).length
      · rw [List.getElem?_set_self hl] at e
        injection e with e
        exact join_some e
      · rw [List.getElem?_eq_none (by simpa using hl)] at e; cases e
    · rw [List.getElem?_set_ne ev] at e
      rcases List.mem_cons.mp h with z | z
      · exact absurd z.symm ev
      · exact unwipe_in z e
theorem plainB_of {ρ : Rho} {vs : List Nat} (h : plainB ρ vs = true) {v : Nat} (m : v ∈ vs) {t : SV} (e : ρ[v]? = some (some t)) : ∃ d, t = .dat d := by
  have := List.all_eq_true.mp h v m
  simp only [e] at this
  cases t with
  | dat d => exact ⟨d, rfl⟩
  | own _ => cases this
  | ob _ _ => cases this
  | tp _ => cases this
  | ex _ _ _ _ => cases this
theorem wipe_outS {σ : L2.St} {j : Nat} : ∀ {vs : List Nat}, j ∉ vs → (wipe σ vs)[j]? = σ[j]? := fun h => L2.wipe_out h
theorem wipe_in_none {σ : L2.St} {j : Nat} : ∀ {vs : List Nat}, j ∈ vs → (wipe σ vs)[j]? = if j < σ.length then some none else none
  | v :: vs, h => by
    rw [wipe]
    by_cases e : v = j
    · subst e
      by_cases hl : v < σ.length
      · rw [if_pos hl, List.getElem?_set_self (by rw [wipe_length]; exact hl)]
      · rw [if_neg hl, List.getElem?_eq_none (by rw [List.length_set, wipe_length]; omega)]
    · rw [List.getElem?_set_ne e]
      rcases List.mem_cons.mp h with z | z
      · exact absurd z.symm e
      · exact wipe_in_none z
theorem wipe_eq {σ σ' : L2.St} {vs ks : List Nat} (hk : ∀ k ∈ ks, k ∈ vs) (hl : σ'.length = σ.length) (h : ∀ j, j ∉ ks → σ'[j]? = (wipe σ vs)[j]?) : wipe σ' vs = wipe σ vs := by
  apply List.ext_getElem?
  intro j
  by_cases m : j ∈ vs
  · rw [wipe_in_none m, wipe_in_none m, hl]
  · rw [wipe_outS m, h j fun z => m (hk j z)]
section
variable {K : PySem.W.Frag} {B : Bs} {σ : L2.St} {G H G' H' : Hp} {ρ ρ' : Rho} {fp fp' : Nat → List Addr} {vs : List Nat}
theorem Rp.wiped (R : Rp K B G H σ ρ fp) (hv : plainB ρ vs = true) (hio : ∀ v ∈ vs, v ∉ B.io) : Rp K B G H (wipe σ vs) (wipeR ρ vs) fp := by
  refine ⟨⟨by rw [wipe_length, wipeR_len]; exact R.co.len, R.co.sub, fun i t h => ?_, fun i h => ?_, R.co.dis⟩, R.stp, R.own, fun i m => ?_, R.lo⟩
  · have m : i ∉ vs := fun m => wipeR_in m h
    rw [wipeR_out m] at h
    rw [wipe_outS m]
    exact R.co.slot i t h
  · by_cases m : i ∈ vs
    · by_cases q : ∃ t, ρ[i]? = some (some t)
      · obtain ⟨t, q⟩ := q
        obtain ⟨d, rfl⟩ := plainB_of hv m q
        obtain ⟨v, _, ot⟩ := R.co.slot i _ q
        exact ot.dat_inv.2
      · exact R.co.nil i fun t e => q ⟨t, e⟩
    · exact R.co.nil i fun t e => h t (by rw [wipeR_out m]; exact e)
  · obtain ⟨v, t, h1, h2, h3⟩ := R.io i m
    have ni : i ∉ vs := fun z => hio i z m
    exact ⟨v, t, h1, by rw [wipe_outS ni]; exact h2, by rw [wipeR_out ni]; exact h3⟩
/-- back from a block: σ2 is the block's slots -/
theorem Rp.unwiped {σ2 : L2.St} (R : Rp K B G H σ ρ fp) (hv : plainB ρ vs = true) (hio : ∀ v ∈ vs, v ∉ B.io) (R2 : Rp K B G' H' σ2 ρ' fp') (hs : ∀ j, j ∉ vs → σ2[j]? = σ[j]?) (s : Sub G G') (hl : σ2.length = σ.length) :
    Rp K B G' H' σ (unwipe ρ' ρ vs) (fun j => if j ∈ vs then [] else fp' j) := by
  refine ⟨⟨by rw [unwipe_len, ← R2.co.len, hl], R2.co.sub, fun i t h => ?_, fun i h => ?_, fun i j a m1 m2 => ?_⟩, R2.stp, fun a h => ?_, fun i m => ?_, R2.lo⟩
  · by_cases m : i ∈ vs
    · have e := unwipe_in m h
      obtain ⟨d, rfl⟩ := plainB_of hv m e
      obtain ⟨v, e1, ot⟩ := R.co.slot i _ e
      refine ⟨v, e1, ?_⟩
      simp only [if_pos m]
      exact .dat (ot.dat_inv.1.mono s)
    · rw [unwipe_out m] at h
      obtain ⟨v, e1, ot⟩ := R2.co.slot i t h
      refine ⟨v, by rw [← hs i m]; exact e1, ?_⟩
      simp only [if_neg m]; exact ot
  · by_cases m : i ∈ vs
    · exact if_pos m
    · simp only [if_neg m]
      exact R2.co.nil i fun t e => h t (by rw [unwipe_out m]; exact e)
  · by_cases e1 : i ∈ vs
    · simp [e1] at m1
    · by_cases e2 : j ∈ vs
      · simp [e2] at m2
      · simp only [if_neg e1] at m1
        simp only [if_neg e2] at m2
        exact R2.co.dis i j a m1 m2
  · obtain ⟨j, m⟩ := h
    by_cases e1 : j ∈ vs
    · simp [e1] at m
    · simp only [if_neg e1] at m
      exact R2.own a ⟨j, m⟩
  · obtain ⟨v, t, h1, h2, h3⟩ := R2.io i m
    have ni : i ∉ vs := fun z => hio i z m
    exact ⟨v, t, h1, by rw [← hs i ni]; exact h2, by rw [unwipe_out ni]; exact h3⟩
end
theorem Nxt.chg {K : PySem.W.Frag} {B : Bs} {σ : L2.St} {G H G' H' : Hp} {ρ ρ' : Rho} {fp fp' : Nat → List Addr} {D : Addr} {o : HO} (R : Rp K B G H σ ρ fp) (n : Nxt K B σ G H fp G' H' ρ' fp') (nD : ¬ In fp' D) (gD : G' D = none) (hD : H D = none ∨ In fp D) :
    Nxt K B σ G H fp G' (upd H' D o) ρ' fp' := by
  have ne : ∀ a, In fp' a → a ≠ D := fun a m e => nD (e ▸ m)
  refine ⟨⟨n.rp.co.grow (Sub.refl _) (fun a m u e => by rw [upd_ne (ne a m)]; exact e) (fun a m => (n.rp.co.here m).2) (fun a u e => ?_), ⟨n.rp.stp.ex, fun a u h e => ?_, n.rp.stp.hid⟩, n.rp.own, n.rp.io, n.rp.lo⟩, ⟨n.st.ex, fun a u h e => ?_, n.st.hid⟩, n.inn⟩
  · have : a ≠ D := fun z => by rw [z, gD] at e; cases e
    rw [upd_ne this]; exact n.rp.co.sub a u e
  · have : a ≠ D := fun z => by
      subst z
      rcases (R.base (fr := [a]) (fun b m => by have : b = a := by simpa using m
                                                subst this; exact hD)) a List.mem_cons_self with y | y
      · exact h y
      · rw [e] at y; cases y
    rw [upd_ne this]; exact n.rp.stp.keep a u h e
  · have : a ≠ D := fun z => by
      subst z
      rcases hD with y | y
      · rw [e] at y; cases y
      · exact h y
    rw [upd_ne this]; exact n.st.keep a u h e
def fLc (io : List Nat) (fi : FI) (fg : FG) (ft : FT) (fe : FE) (vs : List Nat) : FE := fun ρ Q => fi ρ fun ds ρ1 => (∀ v ∈ vs, v ∉ io) ∧ ∃ W : Nat → List SV → Rho → Prop, W 0 [] ρ1 ∧
  (∀ (i : Nat) d acc ρ, ds[i]? = some d → W i acc ρ → plainB ρ vs = true ∧ fg d (wipeR ρ vs) fun ρ2 => ft ρ2 fun b ρ3 => if b = true then fe ρ3 fun r ρ4 => acc.length < sizeLine ∧ W (i + 1) (acc ++ [r]) (unwipe ρ4 ρ vs) else W (i + 1) acc (unwipe ρ3 ρ vs)) ∧
  ∀ acc ρ, W ds.length acc ρ → Q (.own acc) ρ
theorem OTs.snoc {K : PySem.W.Frag} {G H : Hp} {v : V} {t : SV} {f2 : List Addr} : ∀ {vs : List V} {ts : List SV} {f1 : List Addr}, OTs K G H vs ts f1 → OT K G H v t f2 → (∀ a ∈ f1, a ∉ f2) → OTs K G H (vs ++ [v]) (ts ++ [t]) (f1 ++ f2)
  | _, _, _, .nil, o, _ => by
    have := OTs.cons o OTs.nil (fun _ _ z => nomatch z)
    simpa using this
  | _, _, _, .cons (f1 := fa) (f2 := fb) a b d, o, h => by
    have ih := OTs.snoc b o fun x m => h x (List.mem_append_right _ m)
    have := OTs.cons a ih fun x m m' => (List.mem_append.mp m').elim (d x m) (h x (List.mem_append_left _ m))
    simpa [List.append_assoc] using this
section
variable {K : PySem.W.Frag} {io ks vs : List Nat} {wi : TI} {fi : FI} {fg : FG} {ft : FT} {fe : FE}
theorem de_lc (hi : DI K io wi fi) (hk : ∀ k ∈ ks, k ∈ vs) : DE K io (tLc wi (canG K io ks fg) (canT K io ft) (canE K io fe) vs) (fLc io fi fg ft fe vs) := by
  intro B G H σ ρ fp Qd Q hB R hf k
  refine hi B G H σ ρ fp _ _ hB R hf fun ds ρ1 J G1 H1 fp1 n1 dj ⟨hio, W, w0, hw, hd⟩ => ?_
  intro D hD
  have gD : G1 D = none := by
    cases e : G1 D with
    | none => rfl
    | some u => have := n1.rp.co.sub _ _ e; rw [hD] at this; cases this
  have hio' : ∀ v ∈ vs, v ∉ B.io := by rw [hB]; exact hio
  have hHD : H D = none ∨ In fp D := by
    by_cases q : In fp D
    · exact .inr q
    · exact .inl (n1.st.fresh q hD)
  have nD1 : ¬ In fp1 D := fun i => by
    obtain ⟨⟨u, h⟩, _⟩ := n1.rp.co.here i
    rw [hD] at h; cases h
  refine ⟨fun i m H' => m = ds.length - i ∧ i ≤ ds.length ∧ ∃ G' ρ' fp' acc vacc fr, Nxt K B σ G H fp G' H' ρ' fp' ∧ Sub G1 G' ∧ OT K G' H' (.ref D) (.own acc) (D :: fr) ∧ H' D = some (.lst vacc) ∧ OTs K G' H' vacc acc fr ∧
    (∀ a ∈ D :: fr, ¬ In fp' a) ∧ (∀ a ∈ D :: fr, H a = none ∨ In fp a) ∧ W i acc ρ', ⟨_, rfl, Nat.zero_le _, G1, ρ1, fp1, [], [], [], ?_⟩, ?_⟩
  · have n2 := n1.trans (Nxt.laid n1.rp (o := .lst []) hD)
    refine ⟨n2, Sub.refl _, .own upd_same gD .nil (fun z => nomatch z), upd_same, .nil, fun a m => ?_, fun a m => ?_, w0⟩
    · have : a = D := by simpa using m
      subst this; exact nD1
    · have : a = D := by simpa using m
      subst this; exact hHD
  rintro i m H2 ⟨rfl, hi2, G2, ρ2, fp2, acc, vacc, fr, n2, s12, ot, hacc, ots, t1, t2, w2⟩
  obtain ⟨j1, j2⟩ := dj B i G2 H2 σ ρ2 fp2 s12 n2.rp
  by_cases hlt : i < ds.length
  · obtain ⟨d, ed⟩ : ∃ d, ds[i]? = some d := ⟨ds[i], List.getElem?_eq_getElem hlt⟩
    obtain ⟨go, y⟩ := j2 d ed
    refine .inr ⟨go, _, fun H' q => ⟨ds.length - (i + 1), by omega, rfl, hlt, q⟩, fun x H3 yx => ?_⟩
    obtain ⟨G3, n3, r3⟩ := y x H3 yx
    obtain ⟨pl, q⟩ := hw i d acc ρ2 ed w2
    have n23 := n2.trans n3
    have Rw := n3.rp.wiped pl hio'
    -- what is held by the new list stands through all of it
    have hold : ∀ {Ga Ha Gb Hb : Hp} {fa : Nat → List Addr} {f : List Addr}, Stp (In fa) Ga Ha Gb Hb → (∀ a ∈ f, ¬ In fa a) → (∀ a ∈ f, (∃ o, Ha a = some o) ∧ Ga a = none) → (∀ a ∈ f, ∀ o, Ha a = some o → Hb a = some o) ∧ ∀ a ∈ f, Gb a = none := fun st n h => ⟨fun a m o e => st.keep a o (n a m) e, fun a m => by
      obtain ⟨⟨o, e⟩, g⟩ := h a m
      exact st.hid a o (n a m) e g⟩
    have nin : ∀ {fa fb : Nat → List Addr} {Ha : Hp} {f : List Addr}, (∀ a, In fb a → In fa a ∨ Ha a = none) → (∀ a ∈ f, ¬ In fa a) → (∀ a ∈ f, ∃ o, Ha a = some o) → ∀ a ∈ f, ¬ In fb a := fun inn n h a m z => by
      rcases inn a z with y | y
      · exact n a m y
      · obtain ⟨o, e⟩ := h a m
        rw [y] at e; cases e
    have h2 := ot.here
    have ⟨k3, g3⟩ := hold n3.st t1 h2
    have t13 := nin n3.inn t1 fun a m => (h2 a m).1
    have ot3 := ot.mono n3.st.ex k3 g3
    have ots3 := ots.mono n3.st.ex (fun a m => k3 a (List.mem_cons_of_mem _ m)) (fun a m => g3 a (List.mem_cons_of_mem _ m))
    have hacc3 := k3 D List.mem_cons_self _ hacc
    refine ⟨B, G3, wipeR ρ2 vs, fp2, d, _, hB, Rw, r3, q, fun σ4 ρ4 fp4 R4 in4 hs4 q4 => ?_⟩
    have hl4 : σ4.length = σ.length := by rw [hs4.1, wipe_length]
    have hs4' : ∀ j, j ∉ vs → σ4[j]? = σ[j]? := fun j hj => by rw [hs4.2 j fun z => hj (hk j z), wipe_outS hj]
    refine ⟨wipe_eq hk hl4 hs4.2, ?_⟩
    have h3 := ot3.here
    have t14 : ∀ a ∈ D :: fr, ¬ In fp4 a := fun a m z => t13 a m (in4 a z)
    refine ⟨B, G3, ρ4, fp4, _, hB, R4, q4, fun b ρ5 G5 H5 fp5 n5 q5 => ?_⟩
    have ⟨k5, g5⟩ := hold n5.st t14 h3
    have t15 := nin n5.inn t14 fun a m => (h3 a m).1
    have ot5 := ot3.mono n5.st.ex k5 g5
    have ots5 := ots3.mono n5.st.ex (fun a m => k5 a (List.mem_cons_of_mem _ m)) (fun a m => g5 a (List.mem_cons_of_mem _ m))
    have hacc5 := k5 D List.mem_cons_self _ hacc3
    have h5 := ot5.here
    -- back in the frame
    have back : ∀ {Gx Hx : Hp} {ρx : Rho} {fpx : Nat → List Addr}, Rp K B Gx Hx σ4 ρx fpx → Stp (In fp4) G3 H3 Gx Hx → (∀ a, In fpx a → In fp4 a ∨ H3 a = none) → Nxt K B σ G H fp Gx Hx (unwipe ρx ρ2 vs) (fun j => if j ∈ vs then [] else fpx j) := fun {Gx Hx ρx fpx} Rx st inn => by
      have sub : ∀ a, In (fun j => if j ∈ vs then [] else fpx j) a → In fpx a := fun a ⟨j, m⟩ => by
        by_cases e : j ∈ vs
        · simp [e] at m
        · simp only [if_neg e] at m; exact ⟨j, m⟩
      have st' : Stp (In fp) G H Gx Hx := n23.st.trans st fun a z => n23.inn a (in4 a z)
      refine ⟨n3.rp.unwiped pl hio' Rx hs4' st.ex hl4, st', fun a z => ?_⟩
      rcases inn a (sub a z) with y | y
      · exact n23.inn a (in4 a y)
      · by_cases q : In fp a
        · exact .inl q
        · exact .inr (n23.st.fresh q y)
    have sub' : ∀ {fpx : Nat → List Addr} a, In (fun j => if j ∈ vs then [] else fpx j) a → In fpx a := fun {fpx} a ⟨j, m⟩ => by
      by_cases e : j ∈ vs
      · simp [e] at m
      · simp only [if_neg e] at m; exact ⟨j, m⟩
    have s15 : Sub G1 G5 := s12.trans (n3.st.ex.trans n5.st.ex)
    cases b with
    | false =>
      rw [if_neg Bool.false_ne_true] at q5
      refine iteF ?_
      exact ⟨G5, _, _, acc, vacc, fr, back n5.rp n5.st n5.inn, s15, ot5, hacc5, ots5, fun a m z => t15 a m (sub' a z), t2, q5⟩
    | true =>
      rw [if_pos rfl] at q5
      refine iteT ?_
      refine ⟨B, G5, ρ5, fp5, _, hB, n5.rp, q5, fun r ρ6 y G6 H6 fp6 f6 n6 o6 u1 u2 ⟨hz, w6⟩ => ?_⟩
      have ⟨k6, g6⟩ := hold n6.st t15 h5
      have t16 := nin n6.inn t15 fun a m => (h5 a m).1
      have ots6 := ots5.mono n6.st.ex (fun a m => k6 a (List.mem_cons_of_mem _ m)) (fun a m => g6 a (List.mem_cons_of_mem _ m))
      have hacc6 := k6 D List.mem_cons_self _ hacc5
      have nf : ∀ a ∈ D :: fr, a ∉ f6 := fun a m m6 => by
        rcases u2 a m6 with z | z
        · obtain ⟨⟨o, e⟩, _⟩ := h5 a m
          rw [z] at e; cases e
        · exact t15 a m z
      have nDfr : D ∉ fr := by
        obtain ⟨a', vs', f', ev, ef, _, _, _, nn⟩ := ot.own_inv
        injection ef with e1 e2
        subst e1 e2
        exact nn
      have n56 : Nxt K B σ G H fp G6 H6 (unwipe ρ6 ρ2 vs) (fun j => if j ∈ vs then [] else fp6 j) := back n6.rp (n5.st.trans n6.st n5.inn) fun a z => by
        rcases n6.inn a z with y | y
        · exact n5.inn a y
        · by_cases q : In fp4 a
          · exact .inl q
          · exact .inr (n5.st.fresh q y)
      have nD6 : ¬ In (fun j => if j ∈ vs then [] else fp6 j) D := fun z => t16 D List.mem_cons_self (sub' D z)
      have n7 := Nxt.chg (o := .lst (vacc ++ [y])) R n56 nD6 (g6 D List.mem_cons_self) hHD
      have neD : ∀ a ∈ fr, a ≠ D := fun a m e => nDfr (e ▸ m)
      have neD6 : ∀ a ∈ f6, a ≠ D := fun a m e => nf D List.mem_cons_self (e ▸ m)
      have ots7 : OTs K G6 (upd H6 D (.lst (vacc ++ [y]))) (vacc ++ [y]) (acc ++ [r]) (fr ++ f6) :=
        (ots6.mono (Sub.refl _) (fun a m o e => by rw [upd_ne (neD a m)]; exact e) fun a m => (ots6.here a m).2).snoc (o6.mono (Sub.refl _) (fun a m o e => by rw [upd_ne (neD6 a m)]; exact e) fun a m => (o6.here a m).2) fun a m => nf a (List.mem_cons_of_mem _ m)
      have nD7 : D ∉ fr ++ f6 := fun m => (List.mem_append.mp m).elim nDfr (nf D List.mem_cons_self)
      refine ⟨vacc, hacc6, by rw [ots.length]; exact hz, G6, _, _, acc ++ [r], vacc ++ [y], fr ++ f6, n7, s15.trans n6.st.ex, .own upd_same (g6 D List.mem_cons_self) ots7 nD7, upd_same, ots7, fun a m z => ?_, fun a m => ?_, w6⟩
      · rcases List.mem_cons.mp m with e | m
        · subst e; exact nD6 z
        · rcases List.mem_append.mp m with m | m
          · exact t16 a (List.mem_cons_of_mem _ m) (sub' a z)
          · exact u1 a m (sub' a z)
      · rcases List.mem_cons.mp m with e | m
        · exact t2 a (by rw [e]; exact List.mem_cons_self)
        · rcases List.mem_append.mp m with m | m
          · exact t2 a (List.mem_cons_of_mem _ m)
          · rcases u2 a m with z | z
            · by_cases q : In fp a
              · exact .inr q
              · refine .inl ?_
                by_cases q4 : In fp4 a
                · rcases n23.inn a (in4 a q4) with y | y
                  · exact absurd y q
                  · exact y
                · exact n23.st.fresh q (n5.st.fresh q4 z)
            · rcases n5.inn a z with y | y
              · exact (n23.inn a (in4 a y)).symm
              · by_cases q : In fp a
                · exact .inr q
                · exact .inl (n23.st.fresh q y)
  · have e : i = ds.length := by omega
    subst e
    exact .inl ⟨j1 (Nat.le_refl _), k _ ρ2 _ G2 H2 fp2 (D :: fr) n2 ot t1 t2 (hd acc ρ2 w2)⟩
end
end DL

namespace DL
open PySem PySem.Spec PyProof.Rows L2
section
variable {X : Cx} {io ks : List Nat} {e a b : Expr} {pos : Pos}
theorem e_lc {elt tg iter : Expr} {ifs : List Expr} {scope : Scope} {own : List (Str × Nat)} {fi : FI} {fg : FG} {ft : FT} {fe : FE} (hc : X.calm = true) (hN : X.N.Nodup) (hi : PDi X io tg iter fi) (ok : blkC X.N X.env.scope scope own = true)
    (hg : ∀ (s : Shared) (H : Hp) (C : Addr) (cl : List (Str × Addr)) (fp : List Addr), PDg (X.blk s H scope (compEnvC scope cl C X.env) fp) io ks tg fg) (ht : ∀ (s : Shared) (H : Hp) (C : Addr) (cl : List (Str × Addr)) (fp : List Addr), PDts (X.blk s H scope (compEnvC scope cl C X.env) fp) io ifs ft)
    (he : ∀ (s : Shared) (H : Hp) (C : Addr) (cl : List (Str × Addr)) (fp : List Addr), PDe (X.blk s H scope (compEnvC scope cl C X.env) fp) io elt fe) (hk : ∀ k ∈ ks, k ∈ own.map (·.2) := by decide) (hs : ∀ x, foldedSetIterable iter X.env x = pure x := by intro _; rfl) :
    PDe X io (.ListComp elt [⟨tg, iter, ifs, 0⟩] scope pos) (fLc io fi fg ft fe (own.map (·.2))) := by
  obtain ⟨wi, i1, i2⟩ := hi
  exact ⟨_, pe_lc hc hN i1 (blkOk_by ok) (fun s H C cl fp => (hg s H C cl fp).can) (fun s H C cl fp => (ht s H C cl fp).can) (fun s H C cl fp => (he s H C cl fp).can) hs, de_lc i2 hk⟩
theorem s_lc {i : Nat} {y : Str} {py spos : Pos} {elt tg iter : Expr} {ifs : List Expr} {scope : Scope} {own : List (Str × Nat)} {fi : FI} {fg : FG} {ft : FT} {fe : FE} (hc : X.calm = true) (hN : X.N.Nodup) (hi : PDi X io tg iter fi) (ok : blkC X.N X.env.scope scope own = true)
    (hg : ∀ (s : Shared) (H : Hp) (C : Addr) (cl : List (Str × Addr)) (fp : List Addr), PDg (X.blk s H scope (compEnvC scope cl C X.env) fp) io ks tg fg) (ht : ∀ (s : Shared) (H : Hp) (C : Addr) (cl : List (Str × Addr)) (fp : List Addr), PDts (X.blk s H scope (compEnvC scope cl C X.env) fp) io ifs ft)
    (he : ∀ (s : Shared) (H : Hp) (C : Addr) (cl : List (Str × Addr)) (fp : List Addr), PDe (X.blk s H scope (compEnvC scope cl C X.env) fp) io elt fe) (hy : X.N[i]? = some y := by rfl) (hyl : X.env.scope.names.lookup y = some .local := by rfl)
    (hsw : swapsWith (.ListComp elt [⟨tg, iter, ifs, 0⟩] scope pos) (some (.Name y py)) spos.line X.env = pure true := by exact sw_true rfl rfl rfl (by decide +kernel)) (hk : ∀ k ∈ ks, k ∈ own.map (·.2) := by decide) (hs : ∀ x, foldedSetIterable iter X.env x = pure x := by intro _; rfl) :
    PDs X io (.Assign [.Name y py] (.ListComp elt [⟨tg, iter, ifs, 0⟩] scope pos) spos) (fSet io i (fLc io fi fg ft fe (own.map (·.2)))) := by
  obtain ⟨wi, i1, i2⟩ := hi
  exact ⟨_, ps_setLc hc hN hy hyl hsw i1 (blkOk_by ok) (fun s H C cl fp => (hg s H C cl fp).can) (fun s H C cl fp => (ht s H C cl fp).can) (fun s H C cl fp => (he s H C cl fp).can) hs, ds_set (de_lc i2 hk)⟩

/-! list + list, list * int -/
def rCatR : R2 := fun x y H Q => ∃ l b xs zs, x = .ref l ∧ y = .ref b ∧ Rd H l (.lst xs) ∧ Rd H b (.lst zs) ∧ xs.length + zs.length ≤ sizeLine ∧ ∀ p, H p = none → Q (.ref p) (upd H p (.lst (xs ++ zs)))
theorem Inv.rd {pins : List (Addr × Obj)} {σ : L2.St} {H : Hp} {s : Shared} {l : Addr} {xs : List V} (I : L2.Inv X pins σ H s) (h : Rd H l (.lst xs)) : xs.length ≤ sizeLine ∧ ∃ (its : List Value) (n : Nat), Vals xs its ∧ xs.length = its.length ∧ s.heap.get? l = some { cls := .type "list", data := .seq its.toArray n } := by
  obtain ⟨z, its, n, r, e⟩ := h.ok I.hok
  exact ⟨z, its, n, r, r.length, e⟩
theorem op_catR : OpR X (binaryOp .Add) rCatR := by
  intro pins s σ H x y v u Q I rx ry h
  obtain ⟨l, b, xs, zs, rfl, rfl, hH, hB, hz, q⟩ := h
  cases rx
  cases ry
  obtain ⟨z, its, n, r, hl, e⟩ := Inv.rd I hH
  obtain ⟨z2, its2, n2, r2, hl2, e2⟩ := Inv.rd I hB
  refine PySem.P.add_list e e2 ?_ (by rw [List.size_toArray, List.size_toArray]; omega)
  have ea : its.toArray ++ its2.toArray = (its ++ its2).toArray := by simp
  rw [ea]
  exact ⟨.ref _, _, I.lnew (t' := s.toks) (r.append r2) (by rw [List.length_append]; omega), rfl, q _ I.fresh⟩
def rRepR : R2 := fun x y H Q => ∃ l k xs, x = .ref l ∧ y = .int k ∧ Rd H l (.lst xs) ∧ -(2 ^ 63) ≤ k ∧ k < 2 ^ 63 ∧ xs.length * k.toNat ≤ sizeLine ∧
  ∀ p, H p = none → Q (.ref p) (upd H p (.lst (List.replicate k.toNat xs).flatten))
theorem op_repR : OpR X (binaryOp .Mult) rRepR := by
  intro pins s σ H x y v u Q I rx ry h
  obtain ⟨l, k, xs, rfl, rfl, hH, h1, h2, hz, q⟩ := h
  cases rx
  obtain ⟨t, rfl⟩ := ry
  obtain ⟨z, its, n, r, hl, e⟩ := Inv.rd I hH
  have hlen : its.toArray.size * k.toNat ≤ sizeLine := by rw [List.size_toArray, ← hl]; exact hz
  have hcap : ¬ its.toArray.size * k.toNat > (2 ^ 63 - 1) / 8 := by
    have : (sizeLine : Nat) ≤ (2 ^ 63 - 1) / 8 := by decide
    omega
  have hfit : ¬ (!Builtin.List.listFitsIndex k) = true := by
    rw [fitsIndex_both h1 h2]
    exact Bool.false_ne_true
  have hlong : ¬ Builtin.List.listTooLong (its.toArray.size * k.toNat) = true := by
    rw [notLongL hlen]
    exact Bool.false_ne_true
  have hnew : List.foldl (fun x1 x2 => x1 ++ x2) #[] (List.replicate (if its.toArray.isEmpty = true then 0 else k.toNat) its.toArray) = (List.replicate k.toNat its).flatten.toArray := by
    have f0 : ∀ m : Nat, List.foldl (fun x1 x2 => x1 ++ x2) #[] (List.replicate m its.toArray) = (List.replicate m its).flatten.toArray := fun m => by
      have := foldl_rep its m []
      rw [List.nil_append] at this
      exact this
    rw [f0]
    cases its with
    | nil => simp
    | cons a r' => rw [if_neg (by simp)]
  refine wpAny_binaryOp_repeat_ref (T := "list") (U := "int") (by decide) ⟨_, e, rfl⟩ (fun s' => typeIs_int s' k t) noFill_list_mul F.fills_int_mul F.slot_int_rmul repeat_list F.slot_int_index.lookup
    (call_meets F.slot_int_rmul (typeIs_int s k t) F.entry_int_rmul (F.args_int_rmul_2 _ _) (int___rmul___int_list k t l its.toArray n)
      ⟨e, rfl, ⟨_, e, rfl⟩, call_meets F.slot_list_mul ⟨_, e, rfl⟩ F.entry_list_mul (F.args_list_mul_2 _ _) (AutoListH.list___mul___list_int_3 l its.toArray n k t hfit hcap hlong) ⟨e, ?_⟩⟩)
  rw [hnew]
  exact ⟨.ref _, _, I.lnew (t' := s.toks) (r.rep k.toNat) (by rw [PyProof.Rows.lm_len_rep_flat, Nat.mul_comm]; exact hz), rfl, q _ I.fresh⟩
@[simp] def itemsT : SV → Option (List SV)
  | .own ts => some ts
  | .dat (.lst ds) => some (ds.map SV.dat)
  | _ => none
def addT : SV → SV → (SV → Prop) → Prop
  | .dat (.int i), .dat (.int j), P => P (.dat (.int (i + j)))
  | .dat (.str x), .dat (.str y), P => x.length + y.length ≤ sizeLine ∧ P (.dat (.str (x ++ y)))
  | x, y, P => ∃ l m, itemsT x = some l ∧ itemsT y = some m ∧ l.length + m.length ≤ sizeLine ∧ P (.own (l ++ m))
@[simp] def fAddE (fa fb : FE) : FE := fun ρ Q => fa ρ fun x ρ1 => fb ρ1 fun y ρ2 => addT x y fun r => Q r ρ2
theorem items_of {K : PySem.W.Frag} {G H : Hp} {v : V} {t : SV} {f : List Addr} {l : List SV} (o : OT K G H v t f) (sub : Sub G H) (e : itemsT t = some l) : ∃ a xs f', v = .ref a ∧ Rd H a (.lst xs) ∧ OTs K G H xs l f' ∧ ∀ x ∈ f', x ∈ f := by
  cases t with
  | own ts =>
    have : ts = l := Option.some.inj e
    subst this
    obtain ⟨a, vs, f', ev, ef, h, _, os, _⟩ := o.own_inv
    exact ⟨a, vs, f', ev, .inl h, os, fun x m => by rw [ef]; exact List.mem_cons_of_mem _ m⟩
  | dat d =>
    cases d with
    | lst ds =>
      have : ds.map SV.dat = l := Option.some.inj e
      subst this
      obtain ⟨a, xs, ev, h, r⟩ := o.dat_inv.1.lst_inv
      exact ⟨a, xs, [], ev, sub.rd h, r.ots, fun _ z => nomatch z⟩
    | _ => cases e
  | ob _ _ => cases e
  | tp _ => cases e
  | ex _ _ _ _ => cases e
theorem OTs.append {K : PySem.W.Frag} {G H : Hp} {w : List V} {u : List SV} {f2 : List Addr} : ∀ {vs : List V} {ts : List SV} {f1 : List Addr}, OTs K G H vs ts f1 → OTs K G H w u f2 → (∀ a ∈ f1, a ∉ f2) → OTs K G H (vs ++ w) (ts ++ u) (f1 ++ f2)
  | _, _, _, .nil, o, _ => o
  | _, _, _, .cons (f1 := fa) (f2 := fb) a b d, o, h => by
    have ih := OTs.append b o fun x m => h x (List.mem_append_right _ m)
    have := OTs.cons a ih fun x m m' => (List.mem_append.mp m').elim (d x m) (h x (List.mem_append_left _ m))
    simpa [List.append_assoc] using this
theorem op_addA : OpR X (binaryOp .Add) (fun x y H Q => rI0 (fun i j => .int (i + j)) x y H Q ∨ (∃ i j, x = .str i ∧ y = .str j ∧ i.length + j.length ≤ sizeLine ∧ Q (.str (i ++ j)) H) ∨ rCatR x y H Q) := op_add.or (op_add_str.or op_catR)
/-- two trees in a row: the first one is held while the second one is worked out -/
theorem two_trees {K : PySem.W.Frag} {io : List Nat} {ta tb : TE} {fa fb : FE} (a2 : DE K io ta fa) (b2 : DE K io tb fb) {B : Bs} {G H : Hp} {σ : L2.St} {ρ : Rho} {fp : Nat → List Addr} {R2 : V → V → Hp → Prop} {Qd : SV → SV → Rho → Prop} (hB : B.io = io) (R : Rp K B G H σ ρ fp) (hf : fa ρ fun x ρ1 => fb ρ1 fun y ρ2 => Qd x y ρ2)
    (k : ∀ x y ρ2 v w G2 H2 fp2 f1 f2, Nxt K B σ G H fp G2 H2 ρ2 fp2 → OT K G2 H2 v x f1 → OT K G2 H2 w y f2 → (∀ a ∈ f1, a ∉ f2) → (∀ a ∈ f1, ¬ In fp2 a) → (∀ a ∈ f2, ¬ In fp2 a) → (∀ a ∈ f1, H a = none ∨ In fp a) → (∀ a ∈ f2, H a = none ∨ In fp a) → Qd x y ρ2 → R2 v w H2) :
    ta σ H fun x H1 => tb σ H1 fun y H2 => R2 x y H2 := by
  refine a2 B G H σ ρ fp _ _ hB R hf fun x ρ1 v1 G1 H1 fp1 f1 n1 o1 t1 t1' hf => ?_
  refine b2 B G1 H1 σ ρ1 fp1 _ _ hB n1.rp hf fun y ρ2 w G2 H2 fp2 f2 n2 o2 t2 t2' q => ?_
  have o1' : OT K G2 H2 v1 x f1 := o1.mono n2.st.ex (fun a m o h => n2.st.keep a o (t1 a m) h) fun a m => by
    obtain ⟨⟨u, h⟩, g⟩ := o1.here a m
    exact n2.st.hid a u (t1 a m) h g
  refine k x y ρ2 v1 w G2 H2 fp2 f1 f2 (n1.trans n2) o1' o2 (fun a m m' => ?_) (fun a m i => ?_) t2 t1' (fun a m => ?_) q
  · rcases t2' a m' with z | z
    · obtain ⟨⟨u, h⟩, _⟩ := o1.here a m
      rw [z] at h; cases h
    · exact t1 a m z
  · rcases n2.inn a i with z | z
    · exact t1 a m z
    · obtain ⟨⟨u, h⟩, _⟩ := o1.here a m
      rw [z] at h; cases h
  · rcases t2' a m with z | z
    · by_cases q : In fp a
      · exact .inr q
      · exact .inl (n1.st.fresh q z)
    · exact (n1.inn a z).symm
variable {fa fb : FE}
theorem addT_cases {x y : SV} {P : SV → Prop} (h : addT x y P) : (∃ i j, x = .dat (.int i) ∧ y = .dat (.int j) ∧ P (.dat (.int (i + j)))) ∨ (∃ i j : Str, x = .dat (.str i) ∧ y = .dat (.str j) ∧ i.length + j.length ≤ sizeLine ∧ P (.dat (.str (i ++ j)))) ∨
    ∃ l m, itemsT x = some l ∧ itemsT y = some m ∧ l.length + m.length ≤ sizeLine ∧ P (.own (l ++ m)) := by
  unfold addT at h
  split at h
  · exact .inl ⟨_, _, rfl, rfl, h⟩
  · exact .inr (.inl ⟨_, _, rfl, rfl, h⟩)
  · exact .inr (.inr h)
theorem e_add (ha : PDe X io a fa) (hb : PDe X io b fb) : PDe X io (.BinOp a .Add b pos) (fAddE fa fb) := by
  obtain ⟨ta, a1, a2⟩ := ha
  obtain ⟨tb, b1, b2⟩ := hb
  refine ⟨_, pe_op op_addA a1 b1, fun B G H σ ρ fp Qd Q hB R hf k => ?_⟩
  refine two_trees a2 b2 (Qd := fun x y ρ2 => addT x y fun r => Qd r ρ2) hB R hf fun x y ρ2 v w G2 H2 fp2 f1 f2 n o1 o2 d12 n1 n2 t1 t2 q => ?_
  rcases addT_cases q with ⟨i, j, rfl, rfl, q⟩ | ⟨i, j, rfl, rfl, z, q⟩ | ⟨l, m, el, em, z, q⟩
  · exact .inl ⟨i, j, o1.dat_inv.1.int_inv, o2.dat_inv.1.int_inv, k _ _ _ _ _ _ [] n (.dat (.int _)) (fun _ z => nomatch z) (fun _ z => nomatch z) q⟩
  · exact .inr (.inl ⟨i, j, o1.dat_inv.1.str_inv, o2.dat_inv.1.str_inv, z, k _ _ _ _ _ _ [] n (.dat (.str _)) (fun _ z => nomatch z) (fun _ z => nomatch z) q⟩)
  · obtain ⟨p, xs, g1, ev, h1, os1, s1⟩ := items_of o1 n.rp.co.sub el
    obtain ⟨p2, ys, g2, ew, h2, os2, s2⟩ := items_of o2 n.rp.co.sub em
    refine .inr (.inr ⟨p, p2, xs, ys, ev, ew, h1, h2, by rw [os1.length, os2.length]; exact z, ?_⟩)
    exact new_own R n (os1.append os2 fun a m m' => d12 a (s1 a m) (s2 a m')) (fun a m => (List.mem_append.mp m).elim (fun m => n1 a (s1 a m)) fun m => n2 a (s2 a m)) (fun a m => (List.mem_append.mp m).elim (fun m => t1 a (s1 a m)) fun m => t2 a (s2 a m))
      fun v G'' H'' fp'' fr' n' ot' u1 u2 => k _ _ _ _ _ _ _ n' ot' u1 u2 q
def repT (l : List DD) (k : Int) : List DD := (List.replicate k.toNat l).flatten
@[simp] def fRep (fa fb : FE) : FE := fun ρ Q => fa ρ fun x ρ1 => fb ρ1 fun y ρ2 => ∃ (l : List DD) (j : Int), itemsT x = some (l.map SV.dat) ∧ y = .dat (.int j) ∧ -(2 ^ 63) ≤ j ∧ j < 2 ^ 63 ∧ l.length * j.toNat ≤ sizeLine ∧ Q (.own ((repT l j).map SV.dat)) ρ2
theorem RqA.rep {K : PySem.W.Frag} {G : Hp} {vs : List V} {ds : List DD} (h : RqA K G vs ds) : ∀ n : Nat, RqA K G (List.replicate n vs).flatten (List.replicate n ds).flatten
  | 0 => .nil
  | n + 1 => by
    rw [List.replicate_succ, List.replicate_succ, List.flatten_cons, List.flatten_cons]
    exact h.append (RqA.rep h n)
theorem e_rep (ha : PDe X io a fa) (hb : PDe X io b fb) : PDe X io (.BinOp a .Mult b pos) (fRep fa fb) := by
  obtain ⟨ta, a1, a2⟩ := ha
  obtain ⟨tb, b1, b2⟩ := hb
  refine ⟨_, pe_op op_repR a1 b1, fun B G H σ ρ fp Qd Q hB R hf k => ?_⟩
  refine two_trees a2 b2 hB R hf fun x y ρ2 v w G2 H2 fp2 f1 f2 n o1 o2 d12 n1 n2 t1 t2 ⟨l, j, el, ey, j1, j2, hz, q⟩ => ?_
  subst ey
  obtain ⟨p, xs, g1, ev, h1, os1, s1⟩ := items_of o1 n.rp.co.sub el
  obtain ⟨r, _⟩ := os1.dats
  exact ⟨p, j, xs, ev, o2.dat_inv.1.int_inv, h1, j1, j2, by rw [r.length]; exact hz, new_own R n (r.rep j.toNat).ots (fun _ z => nomatch z) (fun _ z => nomatch z) fun v G'' H'' fp'' fr' n' ot' u1 u2 => k _ _ _ _ _ _ _ n' ot' u1 u2 q⟩
end
end DL

namespace DL
open PySem PySem.Spec PyProof.Rows L2
section
variable {X : Cx} {io ks : List Nat} {e a b : Expr} {pos p : Pos} {fa fb : FO}
/-! list(x), tuple(x) -/
def lstT : SV → (List DD → Prop) → Prop
  | .dat (.lst ds), P => P ds
  | .dat (.tup ds), P => P ds
  | .own ts, P => ∃ ds : List DD, ts = ds.map SV.dat ∧ P ds
  | _, _ => False
@[simp] def fLstOf (fa : FO) : FE := fun ρ Q => fa ρ fun x ρ1 => ∃ t, resT ρ1 x = some t ∧ lstT t fun ds => Q (.own (ds.map SV.dat)) ρ1
theorem lstT_of {K : PySem.W.Frag} {G H : Hp} {v : V} {t : SV} {f : List Addr} {P : List DD → Prop} (o : OT K G H v t f) (sub : Sub G H) (h : lstT t P) : ∃ a ys ds, v = .ref a ∧ (SqL K H a ys ∨ SqT K H a ys) ∧ RqA K G ys ds ∧ P ds := by
  unfold lstT at h
  split at h
  · obtain ⟨a, xs, ev, h1, r⟩ := o.dat_inv.1.lst_inv
    exact ⟨a, xs, _, ev, .inl (.inl (sub.rd h1)), r, h⟩
  · obtain ⟨a, xs, ev, h1, r⟩ := o.dat_inv.1.tup_inv
    exact ⟨a, xs, _, ev, .inr (sub.t h1), r, h⟩
  · obtain ⟨ds, rfl, q⟩ := h
    obtain ⟨a, vs, f', ev, ef, h1, _, os, _⟩ := o.own_inv
    exact ⟨a, vs, ds, ev, .inl (.inl (.inl h1)), os.dats.1, q⟩
  · exact h.elim
theorem e_list (hm : X.mg "list" = none) (ha : PDo X io a fa) (hg : Gl X "list" := by rfl) (he : starEach [a] X.env = (false, eval a X.env) :: starEach [] X.env := by rfl) (hpl : (backTo pos (starEach [] X.env)).any (·.1) = false := by rfl) : PDe X io (.Call (.Name "list" p) [a] [] pos) (fLstOf fa) := by
  obtain ⟨ta, a1, a2⟩ := ha
  refine ⟨_, pe_callTy call_list_of hg hm (by decide +kernel) (pa_cons a1 pa_nil he) (by decide) (by decide) he hpl, fun B G H σ ρ fp Qd Q hB R hf k => ?_⟩
  refine a2 B G H σ ρ fp _ _ hB R hf fun x ρ1 v1 G1 H1 fp1 n1 o1 ⟨t, e1, q⟩ => ?_
  obtain ⟨f, ot, hin⟩ := o1.tree n1.rp e1
  obtain ⟨p, ys, ds, ev, h, r, q⟩ := lstT_of ot n1.rp.co.sub q
  exact ⟨p, ys, by rw [ev], h, new_own R n1 r.ots (fun _ z => nomatch z) (fun _ z => nomatch z) fun v G'' H'' fp'' fr' n' ot' u1 u2 => k _ _ _ _ _ _ _ n' ot' u1 u2 q⟩
@[simp] def fTupOf (fe : FE) : FV := fun ρ Q => fe ρ fun t ρ1 => ∃ ds, (t.data = .lst ds ∨ t.data = .tup ds) ∧ Q (.tup ds) ρ1
theorem v_tuple {fe : FE} (hm : X.mg "tuple" = none) (ha : PDe X io a fe) (hg : Gl X "tuple" := by rfl) (he : starEach [a] X.env = (false, eval a X.env) :: starEach [] X.env := by rfl) (hpl : (backTo pos (starEach [] X.env)).any (·.1) = false := by rfl) : PDv X io (.Call (.Name "tuple" p) [a] [] pos) (fTupOf fe) := by
  obtain ⟨ta, a1, a2⟩ := ha
  refine ⟨_, pe_callTy call_tuple_of hg hm (by decide +kernel) (pa_cons a1 pa_nil he) (by decide) (by decide) he hpl, fun B G H σ ρ fp Qd Q hB R hf k => ?_⟩
  refine a2 B G H σ ρ fp _ _ hB R hf fun t ρ1 v1 G1 H1 fp1 fr n1 ot t1 t2 ⟨ds, e1, q⟩ => ?_
  obtain ⟨n2, r⟩ := Nxt.sealed R n1 ot t1 t2
  rcases e1 with e1 | e1
  · rw [e1] at r
    obtain ⟨p, xs, ev, h, rs⟩ := r.lst_inv
    refine ⟨p, xs, by rw [ev], .inl ⟨.inl (n2.rp.co.sub.rd h), fun l hl => ?_⟩⟩
    have n3 := n2.trans (Nxt.stand n2.rp (o := .tup xs) hl)
    refine k _ _ _ _ _ _ n3 (.tup (.inl (.inl upd_same)) (rs.mono fun a o e => ?_)) q
    have ne : a ≠ l := fun z => by
      have := n2.rp.co.sub _ _ e
      rw [z, hl] at this; cases this
    rw [upd_ne ne]; exact e
  · rw [e1] at r
    obtain ⟨p, xs, ev, h, rs⟩ := r.tup_inv
    exact ⟨p, xs, by rw [ev], .inr ⟨n2.rp.co.sub.t h, k _ _ _ _ _ _ n2 (.tup h rs) q⟩⟩
/-! changes in place -/
theorem In_fp {fp : Nat → List Addr} {i : Nat} {a : Addr} (m : a ∈ fp i) : In fp a := ⟨i, m⟩
/-- the list that slot i holds is rewritten -/
theorem Nxt.rewrite {K : PySem.W.Frag} {B : Bs} {σ : L2.St} {G H G' H' : Hp} {ρ ρ' : Rho} {fp fp' : Nat → List Addr} {i : Nat} {a : Addr} {f f' : List Addr} {ts' : List SV} {vs' : List V} {t0 : SV} (R : Rp K B G H σ ρ fp) (n : Nxt K B σ G H fp G' H' ρ' fp')
    (hi : ρ'[i]? = some (some t0)) (hs : σ[i]? = some (some (.ref a))) (hf : fp' i = a :: f) (ha : ∃ o, H' a = some o) (ga : G' a = none) (os : OTs K G' H' vs' ts' f') (na : a ∉ f') (hf' : ∀ x ∈ f', x ∈ f ∨ (¬ In fp' x ∧ (H x = none ∨ In fp x))) :
    Nxt K B σ G H fp G' (upd H' a (.lst vs')) (ρ'.set i (some (.own ts'))) (fun j => if j = i then a :: f' else fp' j) := by
  have il : i < ρ'.length := (List.getElem?_eq_some_iff.mp hi).1
  have ain : In fp' a := ⟨i, by rw [hf]; exact List.mem_cons_self⟩
  have ne : ∀ {j x}, j ≠ i → x ∈ fp' j → x ≠ a := fun {j x} nj m e => by
    subst e
    exact nj (n.rp.co.dis j i x m (by rw [hf]; exact List.mem_cons_self))
  have hin : ∀ x, In (fun j => if j = i then a :: f' else fp' j) x → In fp' x ∨ (H x = none ∨ In fp x) := fun x ⟨j, m⟩ => by
    by_cases e : j = i
    · simp only [if_pos e] at m
      rcases List.mem_cons.mp m with z | m
      · exact .inl (z ▸ ain)
      · rcases hf' x m with z | ⟨_, z⟩
        · exact .inl ⟨i, by rw [hf]; exact List.mem_cons_of_mem _ z⟩
        · exact .inr z
    · simp only [if_neg e] at m
      exact .inl ⟨j, m⟩
  have base : ∀ x, In fp' x → In B.fp0 x ∨ B.H0 x = none := n.rp.own
  refine ⟨⟨⟨by rw [List.length_set]; exact n.rp.co.len, fun x u e => ?_, fun j t h => ?_, fun j h => ?_, fun j l x m1 m2 => ?_⟩, ⟨n.rp.stp.ex, fun x u h e => ?_, n.rp.stp.hid⟩, fun x h => ?_, fun j m => ?_, n.rp.lo⟩, ⟨n.st.ex, fun x u h e => ?_, n.st.hid⟩, fun x h => ?_⟩
  · have : x ≠ a := fun z => by rw [z, ga] at e; cases e
    rw [upd_ne this]; exact n.rp.co.sub x u e
  · by_cases e : j = i
    · subst e
      rw [List.getElem?_set_self il] at h
      injection h with h; injection h with h
      subst h
      refine ⟨_, hs, ?_⟩
      simp only [if_true]
      exact .own upd_same ga (os.mono (Sub.refl _) (fun x m u e => by rw [upd_ne (fun z : x = a => na (z ▸ m))]; exact e) fun x m => (os.here x m).2) na
    · rw [List.getElem?_set_ne (Ne.symm e)] at h
      obtain ⟨v, e1, ot⟩ := n.rp.co.slot j t h
      refine ⟨v, e1, ?_⟩
      simp only [if_neg e]
      exact ot.mono (Sub.refl _) (fun x m u e2 => by rw [upd_ne (ne e m)]; exact e2) fun x m => (ot.here x m).2
  · by_cases e : j = i
    · subst e; exact absurd (List.getElem?_set_self il) (h _)
    · simp only [if_neg e]
      exact n.rp.co.nil j fun t q => h t (by rw [List.getElem?_set_ne (Ne.symm e)]; exact q)
  · have key : ∀ {j l}, j = i → l ≠ i → x ∈ a :: f' → x ∈ fp' l → False := fun {j l} e1 e2 m1 m2 => by
      rcases List.mem_cons.mp m1 with z | m1
      · exact ne e2 m2 z
      · rcases hf' x m1 with z | ⟨z, _⟩
        · exact e2 (n.rp.co.dis l i x m2 (by rw [hf]; exact List.mem_cons_of_mem _ z))
        · exact z ⟨l, m2⟩
    by_cases e1 : j = i
    · by_cases e2 : l = i
      · rw [e1, e2]
      · simp only [if_pos e1] at m1
        simp only [if_neg e2] at m2
        exact (key e1 e2 m1 m2).elim
    · by_cases e2 : l = i
      · simp only [if_neg e1] at m1
        simp only [if_pos e2] at m2
        exact (key e2 e1 m2 m1).elim
      · simp only [if_neg e1] at m1
        simp only [if_neg e2] at m2
        exact n.rp.co.dis j l x m1 m2
  · have : x ≠ a := fun z => by
      subst z
      rcases base x ain with y | y
      · exact h y
      · rw [e] at y; cases y
    rw [upd_ne this]; exact n.rp.stp.keep x u h e
  · rcases hin x h with z | z
    · exact base x z
    · exact R.base (fr := [x]) (fun y m => by have : y = x := by simpa using m
                                              subst this; exact z) x List.mem_cons_self
  · obtain ⟨w, t, e1, e2, e3⟩ := n.rp.io j m
    by_cases e : j = i
    · subst e; exact ⟨w, _, e1, e2, List.getElem?_set_self il⟩
    · exact ⟨w, t, e1, e2, by rw [List.getElem?_set_ne (Ne.symm e)]; exact e3⟩
  · have : x ≠ a := fun z => by
      subst z
      rcases n.inn x ain with y | y
      · exact h y
      · rw [e] at y; cases y
    rw [upd_ne this]; exact n.st.keep x u h e
  · rcases hin x h with z | z
    · exact n.inn x z
    · exact z.symm
/-- the list in slot i, as it stands -/
theorem Rp.ownAt {K : PySem.W.Frag} {B : Bs} {σ : L2.St} {G H : Hp} {ρ : Rho} {fp : Nat → List Addr} (R : Rp K B G H σ ρ fp) {i : Nat} {ts : List SV} (h : ρ[i]? = some (some (.own ts))) : ∃ a vs f, σ[i]? = some (some (.ref a)) ∧ fp i = a :: f ∧ H a = some (.lst vs) ∧ G a = none ∧ OTs K G H vs ts f ∧ a ∉ f := by
  obtain ⟨v, e1, ot⟩ := R.co.slot i _ h
  obtain ⟨a, vs, f, ev, ef, h1, h2, os, n⟩ := ot.own_inv
  subst ev
  exact ⟨a, vs, f, e1, ef, h1, h2, os, n⟩
@[simp] def fApp (i : Nat) (fe : FE) : FE := fun ρ Q => (∃ ts0, ρ[i]? = some (some (.own ts0))) ∧ fe ρ fun r ρ1 => ∃ ts, ρ1[i]? = some (some (.own ts)) ∧ ts.length < sizeLine ∧ Q (.dat .non) (ρ1.set i (some (.own (ts ++ [r]))))
theorem e_app {te : TE} {fe : FE} {o : Expr} {apos : Pos} (i : Nat) (ho : PE X o te) (ht : te = tVar i) (h : PDe X io e fe) (hs : starEach (e :: []) X.env = (false, eval e X.env) :: starEach [] X.env := by rfl)
    (hbm : ∀ t, PA X [e] t → PE X (.Call (.Attribute o "append" apos) [e] [] pos) (tBM X.K "list" rAppend (tVar i) t)) : PDe X io (.Call (.Attribute o "append" apos) [e] [] pos) (fApp i fe) := by
  subst ht
  obtain ⟨ta, a1, a2⟩ := h
  refine ⟨_, hbm _ (pa_cons a1 pa_nil hs), fun B G H σ ρ fp Qd Q hB R hf k => ?_⟩
  obtain ⟨⟨ts0, e0⟩, hf⟩ := hf
  obtain ⟨l, vs0, f0, s0, _, h0, _, _, _⟩ := R.ownAt e0
  refine ⟨.ref l, s0, .inl ⟨rfl, _, .inl (.inl h0)⟩, ?_⟩
  refine a2 B G H σ ρ fp _ _ hB R hf fun r ρ1 v G1 H1 fp1 fr n1 ot t1 t2 ⟨ts, e1, hz, q⟩ => ?_
  obtain ⟨l', vs, f, s1, ef, h1, g1, os, nl⟩ := n1.rp.ownAt e1
  have : l = l' := by rw [s0] at s1; injection s1 with z; injection z with z; injection z
  subst this
  have nfr : ∀ x ∈ fr, x ∉ l :: f := fun x m m' => t1 x m ⟨i, by rw [ef]; exact m'⟩
  have n2 := Nxt.rewrite (i := i) (a := l) R n1 e1 s1 ef ⟨_, h1⟩ g1 (os.snoc ot fun x m m' => nfr x m' (List.mem_cons_of_mem _ m)) (fun m => (List.mem_append.mp m).elim nl fun m => nfr l m List.mem_cons_self)
    (fun x m => (List.mem_append.mp m).elim .inl fun m => .inr ⟨t1 x m, t2 x m⟩)
  exact ⟨l, vs, v, rfl, rfl, h1, by rw [os.length]; exact hz, k _ _ _ _ _ _ [] n2 (.dat .non) (fun _ z => nomatch z) (fun _ z => nomatch z) q⟩
@[simp] def fPop (i : Nat) : FE := fun ρ Q => ∃ ts t, ρ[i]? = some (some (.own ts)) ∧ ts[ts.length - 1]? = some t ∧ Q t (ρ.set i (some (.own ts.dropLast)))
theorem OTs.unsnoc {K : PySem.W.Frag} {G H : Hp} : ∀ {ts : List SV} {t : SV} {vs : List V} {f : List Addr}, OTs K G H vs (ts ++ [t]) f → ∃ ws w f1 f2, vs = ws ++ [w] ∧ OTs K G H ws ts f1 ∧ OT K G H w t f2 ∧ (∀ a ∈ f1, a ∉ f2) ∧ (∀ a ∈ f1, a ∈ f) ∧ ∀ a ∈ f2, a ∈ f
  | [], t, vs, f, h => by
    cases h with
    | cons a b d =>
      cases b
      exact ⟨[], _, [], _, rfl, .nil, a, by simp, by simp, fun x m => List.mem_append_left _ m⟩
  | u :: ts, t, vs, f, h => by
    rw [List.cons_append] at h
    cases h with
    | cons a b d =>
      obtain ⟨ws, w, f1, f2, rfl, o1, o2, d12, i1, i2⟩ := OTs.unsnoc b
      refine ⟨_ :: ws, w, _, f2, rfl, .cons a o1 fun x m m' => d x m (i1 x m'), o2, fun x m m' => ?_, fun x m => ?_, fun x m => List.mem_append_right _ (i2 x m)⟩
      · rcases List.mem_append.mp m with m | m
        · exact d x m (i2 x m')
        · exact d12 x m m'
      · rcases List.mem_append.mp m with m | m
        · exact List.mem_append_left _ m
        · exact List.mem_append_right _ (i1 x m)
theorem last_split {α : Type} {l : List α} {t : α} (h : l[l.length - 1]? = some t) : l = l.dropLast ++ [t] := by
  cases l with
  | nil => simp at h
  | cons a r =>
    have ne : a :: r ≠ [] := List.cons_ne_nil _ _
    have : (a :: r).getLast ne = t := by
      have := List.getLast?_eq_getElem? (l := a :: r)
      rw [h] at this
      rw [List.getLast?_eq_some_getLast ne] at this
      injection this
    rw [← this]
    exact (List.dropLast_concat_getLast ne).symm
theorem e_pop {te : TE} {o : Expr} {apos : Pos} (i : Nat) (ho : PE X o te) (ht : te = tVar i) (hbm : PE X (.Call (.Attribute o "pop" apos) [] [] pos) (tBM0 X.K "list" rPop (tVar i))) : PDe X io (.Call (.Attribute o "pop" apos) [] [] pos) (fPop i) := by
  subst ht
  refine ⟨_, hbm, fun B G H σ ρ fp Qd Q hB R hf k => ?_⟩
  obtain ⟨ts, t, e0, el, q⟩ := hf
  obtain ⟨l, vs, f, s0, ef, h0, g0, os, nl⟩ := R.ownAt e0
  have sp := last_split el
  rw [sp] at os
  obtain ⟨ws, w, f1, f2, ev, o1, o2, d12, i1, i2⟩ := os.unsnoc
  subst ev
  refine ⟨.ref l, s0, .inl ⟨rfl, _, .inl (.inl h0)⟩, l, _, w, rfl, rfl, h0, by simp, ?_⟩
  have e3 : (ws ++ [w]).dropLast = ws := by simp
  rw [e3]
  have n2 := Nxt.rewrite (i := i) (a := l) R (Nxt.refl R) e0 s0 ef ⟨_, h0⟩ g0 o1 (fun m => nl (i1 l m)) (fun x m => .inl (i1 x m))
  have ne : ∀ x ∈ f2, x ≠ l := fun x m z => nl (z ▸ i2 x m)
  refine k t _ w _ _ _ f2 n2 (o2.mono (Sub.refl _) (fun x m u e => by rw [upd_ne (ne x m)]; exact e) fun x m => (o2.here x m).2) (fun x m ⟨j, z⟩ => ?_) (fun x m => .inr ⟨i, by rw [ef]; exact List.mem_cons_of_mem _ (i2 x m)⟩) q
  by_cases e : j = i
  · simp only [if_pos e] at z
    rcases List.mem_cons.mp z with z | z
    · exact ne x m z
    · exact d12 x z m
  · simp only [if_neg e] at z
    exact e (R.co.dis j i x z (by rw [ef]; exact List.mem_cons_of_mem _ (i2 x m)))
theorem OTs.setD {K : PySem.W.Frag} {G H : Hp} {v : V} {d : DD} (r : Rq K G v d) : ∀ {vs : List V} {ts : List SV} {f : List Addr} (j : Nat), OTs K G H vs ts f → ∃ f', OTs K G H (vs.set j v) (ts.set j (.dat d)) f' ∧ ∀ x ∈ f', x ∈ f
  | _, _, _, _, .nil => ⟨[], .nil, fun _ z => z⟩
  | _, _, _, 0, .cons a b dd => ⟨_, OTs.cons (.dat r) b (fun _ z => nomatch z), fun x m => List.mem_append_right _ (by simpa using m)⟩
  | _, _, _, j + 1, .cons a b dd => by
    obtain ⟨f', o, i⟩ := OTs.setD r j b
    exact ⟨_, OTs.cons a o fun x m m' => dd x m (i x m'), fun x m => (List.mem_append.mp m).elim (List.mem_append_left _) fun m => List.mem_append_right _ (i x m)⟩
/-- xs[k] = e, xs the list that slot s holds -/
@[simp] def fSetIt (s : Nat) (fv : FV) (fo : FO) : FS := fun D ρ => fv ρ fun d ρ1 => (∃ t, ρ1[s]? = some (some t)) ∧ fo ρ1 fun x ρ2 => ∃ k ts j, resD ρ2 x = some (.int k) ∧ ρ2[s]? = some (some (.own ts)) ∧ ixN ts.length k = some j ∧ D.nx (ρ2.set s (some (.own (ts.set j (.dat d)))))
theorem s_setit {te : TE} {fv : FV} {fo : FO} {o : Expr} {p2 : Pos} (s : Nat) (ho : PE X o te) (ht : te = tVar s) (hv : PDv X io e fv) (hi : PDo X io b fo)
    (ha : ∀ v, assign (.Subscript o b p2) X.env v = (do
      let ov ← holding [v] (eval o X.env)
      let iv ← holding [v, ov] (eval b X.env)
      standAt p2
      holding [v, ov, iv] (setItem ov iv v)
      release [v, ov, iv] []) := by intro _; rfl)
    (hs : swapsWithSole [.Subscript o b p2] e pos.line X.env = pure false := by rfl) (hw : swappedStores [.Subscript o b p2] e X.env = pure none := by rfl)
    (h1 : (assignEach [.Subscript o b p2] X.env).map (·.2) = [assign (.Subscript o b p2) X.env] := by rfl) : PDs X io (.Assign [.Subscript o b p2] e pos) (fSetIt s fv fo) := by
  subst ht
  obtain ⟨_, v1, v2⟩ := hv
  obtain ⟨_, i1, i2⟩ := hi
  refine ⟨_, ps_asg v1 (pg_sub ho i1 set_list ha) hs hw h1, fun B G H σ ρ fp Dd Dh hB R hf sm => ?_⟩
  refine v2 B G H σ ρ fp _ _ hB R hf fun d ρ1 v G1 H1 fp1 n1 r ⟨⟨t0, e0⟩, hf⟩ => ?_
  obtain ⟨z, ez, _⟩ := n1.rp.co.slot s t0 e0
  refine ⟨z, ez, ?_⟩
  refine i2 B G1 H1 σ ρ1 fp1 _ _ hB n1.rp hf fun x ρ2 u G2 H2 fp2 n2 o2 ⟨k, ts, j, ek, es, ej, q⟩ => ?_
  obtain ⟨l, vs, f, s0, ef, h0, g0, os, nl⟩ := n2.rp.ownAt es
  have : z = .ref l := by rw [ez] at s0; injection s0 with y; injection y
  subst this
  obtain ⟨f', o', i'⟩ := os.setD (r.mono n2.st.ex) j
  have n3 := Nxt.rewrite (i := s) (a := l) n1.rp n2 es s0 ef ⟨_, h0⟩ g0 o' (fun m => nl (i' l m)) (fun x m => .inl (i' x m))
  exact ⟨l, vs, k, j, rfl, (o2.rqH n2.rp ek).int_inv, h0, by rw [os.length]; exact ej, sm.nx _ _ _ _ _ n3.rp q⟩
/-- xs[k] op= e -/
theorem get_listV : PGet X (rIxL X.K) := by
  intro pins s σ H x y v u Q I rx ry h
  obtain ⟨p, xs, i, z, rfl, rfl, hq, he, q⟩ := h
  cases rx
  obtain ⟨t, rfl⟩ := ry
  obtain ⟨its, r, pl, hz⟩ := I.list hq
  obtain ⟨j, h1, h2, h3, h4, h5⟩ := atI_get he
  obtain ⟨w, ew, rw'⟩ := r.get h2
  have hl := r.length
  have hn := line63
  have fin : EP X pins σ Q w s := ⟨z, H, I, rw', q⟩
  by_cases h0 : 0 ≤ i
  · have hj : i.toNat = j := by
      rw [seqIndex_of h0 h5] at h1
      exact Option.some.inj h1
    exact wpAny_getItem_list (x := w) pl.isList h0 (by omega) (by rw [hj]; simpa using ew) fin
  · have hj : (i + (its.toArray.size : Int)).toNat = j := by
      rw [seqIndex_neg (by omega) h4] at h1
      rw [List.size_toArray, ← hl]
      exact Option.some.inj h1
    exact wpAny_getItem_list_neg (x := w) pl.isList (by omega) (by rw [List.size_toArray] <;> omega) (by omega) (by rw [hj]; simpa using ew) fin
@[simp] def fAugIt (s : Nat) (fo : FO) (fv : FV) (op : Int → Int → Int) : FS := fun D ρ => (∃ t, ρ[s]? = some (some t)) ∧ fo ρ fun x ρ1 => ∃ (k n : Int) (ts1 : List SV), resD ρ1 x = some (.int k) ∧ ρ1[s]? = some (some (.own ts1)) ∧ atI ts1 k = some (.dat (.int n)) ∧
  fv ρ1 fun d ρ2 => ∃ (m : Int) (ts : List SV) (j : Nat), d = .int m ∧ ρ2[s]? = some (some (.own ts)) ∧ ixN ts.length k = some j ∧ D.nx (ρ2.set s (some (.own (ts.set j (.dat (.int (op n m)))))))
theorem s_augit {te : TE} {fv : FV} {fo : FO} {o : Expr} {p2 : Pos} {op : Operator} {g : Int → Int → Int} (hp : PIp X op (ipI g)) (s : Nat) (ho : PE X o te) (ht : te = tVar s) (hi : PDo X io b fo) (hv : PDv X io e fv)
    (ha : ∀ ov iv new, augStore b ov iv new = (do holding [new, ov, iv] (setItem ov iv new); release [new, ov, iv] []; pure .next) := by intros; rfl) : PDs X io (.AugAssign (.Subscript o b p2) op e pos) (fAugIt s fo fv g) := by
  subst ht
  obtain ⟨_, v1, v2⟩ := hv
  obtain ⟨_, i1, i2⟩ := hi
  refine ⟨_, ps_augS ho i1 get_listV v1 hp set_list ha, fun B G H σ ρ fp Dd Dh hB R hf sm => ?_⟩
  obtain ⟨⟨t0, e0⟩, hf⟩ := hf
  obtain ⟨z, ez, _⟩ := R.co.slot s t0 e0
  refine ⟨z, ez, ?_⟩
  refine i2 B G H σ ρ fp _ _ hB R hf fun x ρ1 u G1 H1 fp1 n1 o1 ⟨k, n, ts1, ek, es1, ea, hf⟩ => ?_
  obtain ⟨l, vs1, f1, s1, _, h1, _, os1, _⟩ := n1.rp.ownAt es1
  have : z = .ref l := by rw [ez] at s1; injection s1 with y; injection y
  subst this
  obtain ⟨w, fw, ew, ow, _⟩ := atI_ots os1 ea
  have hk := (o1.rqH n1.rp ek).int_inv
  refine ⟨l, vs1, k, w, rfl, hk, .inl (.inl h1), ew, ?_⟩
  refine v2 B G1 H1 σ ρ1 fp1 _ _ hB n1.rp hf fun d ρ2 v G2 H2 fp2 n2 r ⟨m, ts, j, ed, es, ej, q⟩ => ?_
  subst ed
  obtain ⟨l', vs, f, s0, ef, h0, g0, os, nl⟩ := n2.rp.ownAt es
  have : l = l' := by rw [s1] at s0; injection s0 with y; injection y with y; injection y
  subst this
  obtain ⟨f', o', i'⟩ := os.setD (v := .int (g n m)) (d := .int (g n m)) (.int _) j
  have n3 := Nxt.rewrite (i := s) (a := l) n1.rp n2 es s0 ef ⟨_, h0⟩ g0 o' (fun m => nl (i' l m)) (fun x m => .inl (i' x m))
  exact ⟨n, m, ow.dat_inv.1.int_inv, r.int_inv, l, vs, k, j, rfl, hk, h0, by rw [os.length]; exact ej, sm.nx _ _ _ _ _ n3.rp q⟩
end
end DL

namespace DL
open PySem PySem.Spec PyProof.Rows L2
/-! ### a def's body -/
def outsG (io : List Nat) (ρ : Rho) : Nat → List SV → List SV
  | _, [] => []
  | k, t :: r => (if k ∈ io then (ρ[k]?.join).getD t else t) :: outsG io ρ (k + 1) r
def outs (io : List Nat) (as : List SV) (ρ : Rho) : List SV := if io = [] then as else outsG io ρ 0 as
theorem outsG_len (io : List Nat) (ρ : Rho) : ∀ (k : Nat) (as : List SV), (outsG io ρ k as).length = as.length
  | _, [] => rfl
  | k, _ :: r => congrArg (· + 1) (outsG_len io ρ (k + 1) r)
theorem outsG_get {io : List Nat} {ρ : Rho} : ∀ {as : List SV} {k i : Nat} {t : SV}, as[i]? = some t → (outsG io ρ k as)[i]? = some (if k + i ∈ io then (ρ[k + i]?.join).getD t else t)
  | [], _, _, _, h => by simp at h
  | a :: r, k, 0, t, h => by simp at h; subst h; simp [outsG]
  | a :: r, k, i + 1, t, h => by
    have := outsG_get (io := io) (ρ := ρ) (as := r) (k := k + 1) (i := i) (t := t) (by simpa using h)
    rw [outsG]
    simp only [List.getElem?_cons_succ]
    rw [this]
    have e : k + 1 + i = k + (i + 1) := by omega
    rw [e]
theorem outs_len (io : List Nat) (as : List SV) (ρ : Rho) : (outs io as ρ).length = as.length := by
  unfold outs
  split
  · rfl
  · exact outsG_len io ρ 0 as
theorem outs_get {io : List Nat} {as : List SV} {ρ : Rho} {i : Nat} {t : SV} (h : as[i]? = some t) : (outs io as ρ)[i]? = some (if i ∈ io then (ρ[i]?.join).getD t else t) := by
  unfold outs
  split
  · rename_i e
    rw [h, e]; simp
  · have := outsG_get (io := io) (ρ := ρ) (k := 0) h
    simpa using this
theorem Co.pad {K : PySem.W.Frag} {G H : Hp} {vs : List V} {as : List SV} {fp : Nat → List Addr} (c : Co K G H (vs.map some) (as.map some) fp) (n : Nat) : Co K G H (vs.map some ++ List.replicate n none) (as.map some ++ List.replicate n none) fp := by
  have hl := c.len
  simp at hl
  have key : ∀ (i : Nat) t, (as.map some ++ List.replicate n none)[i]? = some (some t) ↔ (as.map some)[i]? = some (some t) := fun i t => by
    by_cases h : i < as.length
    · rw [List.getElem?_append_left (by simpa using h)]
    · rw [List.getElem?_append_right (by simpa using h), List.getElem?_replicate]
      constructor
      · intro e
        split at e <;> cases e
      · intro e
        rw [List.getElem?_eq_none (by simpa using h)] at e; cases e
  refine ⟨by simp [hl], c.sub, fun i t h => ?_, fun i h => c.nil i fun t e => h t ((key i t).mpr e), c.dis⟩
  have h' := (key i t).mp h
  obtain ⟨v, e, o⟩ := c.slot i t h'
  have : i < vs.length := by
    have := (List.getElem?_eq_some_iff.mp e).1
    simpa using this
  exact ⟨v, by rw [List.getElem?_append_left (by simpa using this)]; exact e, o⟩
theorem outs_co {K : PySem.W.Frag} {B : Bs} {σ : L2.St} {G H : Hp} {ρ : Rho} {fp : Nat → List Addr} (R : Rp K B G H σ ρ fp) (c0 : Co K B.G0 B.H0 (B.vs.map some) (B.as.map some) B.fp0)
    (hio : ∀ (i : Nat) t, B.as[i]? = some t → i ∈ B.io ∨ ∃ d, t = .dat d) (hil : ∀ i ∈ B.io, i < B.as.length) : Co K G H (B.vs.map some) ((outs B.io B.as ρ).map some) (fun i => if i ∈ B.io then fp i else []) := by
  have hl := c0.len
  simp at hl
  have at' : ∀ (i : Nat) t, ((outs B.io B.as ρ).map some)[i]? = some (some t) → ∃ u, B.as[i]? = some u ∧ t = if i ∈ B.io then (ρ[i]?.join).getD u else u := fun i t h => by
    rw [List.getElem?_map] at h
    cases q : (outs B.io B.as ρ)[i]? with
    | none => rw [q] at h; cases h
    | some z =>
      rw [q] at h
      simp at h
      subst h
      have li : i < B.as.length := by
        have := (List.getElem?_eq_some_iff.mp q).1
        rwa [outs_len] at this
      refine ⟨B.as[i], List.getElem?_eq_getElem li, ?_⟩
      have := outs_get (io := B.io) (ρ := ρ) (List.getElem?_eq_getElem li)
      rw [q] at this
      exact Option.some.inj this
  refine ⟨by simp [outs_len, hl], R.co.sub, fun i t h => ?_, fun i h => ?_, fun i j a m1 m2 => ?_⟩
  · obtain ⟨u, eu, et⟩ := at' i t h
    by_cases m : i ∈ B.io
    · obtain ⟨v, z, e1, e2, e3⟩ := R.io i m
      rw [if_pos m, e3] at et
      simp at et
      subst et
      obtain ⟨w, e4, o⟩ := R.co.slot i _ e3
      rw [e2] at e4
      have : v = w := by injection e4 with y; injection y
      subst this
      refine ⟨v, by rw [List.getElem?_map, e1]; rfl, ?_⟩
      simp only [if_pos m]; exact o
    · rw [if_neg m] at et
      subst et
      rcases hio i t eu with z | ⟨d, rfl⟩
      · exact absurd z m
      · obtain ⟨v, e1, o⟩ := c0.slot i (.dat d) (by rw [List.getElem?_map, eu]; rfl)
        refine ⟨v, e1, ?_⟩
        simp only [if_neg m]
        exact .dat (o.dat_inv.1.mono R.stp.ex)
  · by_cases m : i ∈ B.io
    · have li := hil i m
      have := outs_get (io := B.io) (ρ := ρ) (List.getElem?_eq_getElem li)
      exact absurd (by rw [List.getElem?_map, this]; rfl) (h _)
    · exact if_neg m
  · by_cases e1 : i ∈ B.io
    · by_cases e2 : j ∈ B.io
      · simp only [if_pos e1] at m1
        simp only [if_pos e2] at m2
        exact R.co.dis i j a m1 m2
      · simp [e2] at m2
    · simp [e1] at m1
section
variable {P : Program} {w : World} {K : PySem.W.Frag} {mg : Str → Option Value} {base : Heap} {f : Addr} {fd : FuncData} {x qual : Str} {params : Arguments} {body : List Stmt} {scope : Scope} {N ps : List Str} {k : Nat}
theorem okG {F : Ctr} {io : List Nat} {fs : FS} (F0 : FunD K x qual params body scope [] [] f fd) (S : FnScope N ps scope)
    (hbody : ∀ (cdv : Value) (A : Around) (outer : List Env) (s : Shared) (H : Hp) (E : XK), RoomG k (A.deeper (envOfC qual scope s.heap.objs.size f cdv)) → PDss (cxOf CX0 P w K mg base N qual scope f cdv A outer s H E).nox io body fs)
    (hlen : ∀ as Q, F as Q → as.length = ps.length) (hio : ∀ as Q, F as Q → ∀ (i : Nat) t, as[i]? = some t → i ∈ io ∨ ∃ d, t = .dat d) (hil : ∀ i ∈ io, i < ps.length)
    (hF : ∀ as Q, F as Q → fs ⟨fun ρ => Q (.dat .non) (outs io as ρ), fun r ρ => Q r (outs io as ρ), fun _ => False, fun _ => False⟩ (as.map some ++ List.replicate (N.length - ps.length) none)) :
    FnG P w K mg base CX0 (k + 1) f fd ps (spD K F) := by
  obtain ⟨oc, od, dV, kV, doc, pm, an, cdv, ct, osl, rfl, lk, hcd, _, _⟩ := F0.ex
  have hlen' : ∀ vs H Q E, spD K F vs H Q E → vs.length = ps.length := fun vs H Q E ⟨G, as, fp, Qd, c, hF', _⟩ => by
    have := c.len
    simp at this
    rw [this]; exact hlen as Qd hF'
  refine fn_ofG lk hcd S hlen' fun A outer s H vs Q E hr ⟨G, as, fp, Qd, c, hF', kk⟩ => ?_
  obtain ⟨t, h1, h2⟩ := hbody cdv A outer s H E hr
  refine ⟨t, h1.nox, ?_⟩
  have ea := hlen as Qd hF'
  have ev : vs.length = as.length := by have := c.len; simp at this; exact this
  let B : Bs := ⟨vs, as, io, G, H, fp, fun _ => none⟩
  have R0 : Rp K B G H (L2.start N vs) (as.map some ++ List.replicate (N.length - ps.length) none) fp := by
    refine ⟨?_, Stp.refl G H, fun a h => .inl h, fun i m => ?_, fun a o h => (nomatch h)⟩
    · unfold L2.start
      rw [ev, ea]
      exact c.pad _
    · have li : i < as.length := by rw [ea]; exact hil i m
      have lv : i < vs.length := by rw [ev]; exact li
      exact ⟨vs[i], as[i], List.getElem?_eq_getElem lv, by unfold L2.start; rw [List.getElem?_append_left (by simpa using lv)]; simp [lv], by rw [List.getElem?_append_left (by simpa using li)]; simp [li]⟩
  have hio' : ∀ (i : Nat) t, B.as[i]? = some t → i ∈ B.io ∨ ∃ d, t = .dat d := hio as Qd hF'
  have hil' : ∀ i ∈ B.io, i < B.as.length := fun i m => by rw [show B.as.length = ps.length from ea]; exact hil i m
  have key : ∀ G' H' σ ρ fp' r v fr, Rp K B G' H' σ ρ fp' → OT K G' H' v r fr → (∀ a ∈ fr, ¬ In fp' a) → (∀ a ∈ fr, In B.fp0 a ∨ B.H0 a = none) → Qd r (outs io as ρ) → Q v H' := fun G' H' σ ρ fp' r v fr R ot t1 t2 q => by
    have sub : ∀ a, In (fun i => if i ∈ io then fp' i else []) a → In fp' a := fun a ⟨j, m⟩ => by
      by_cases e : j ∈ io
      · simp only [if_pos e] at m; exact ⟨j, m⟩
      · simp [e] at m
    exact kk r (outs io as ρ) v G' H' _ fr (outs_co R c hio' hil') R.stp (fun a h => R.own a (sub a h)) ot (fun a m h => t1 a m (sub a h)) (fun a m => (t2 a m).symm) q
  exact h2 B G H _ _ fp _ _ rfl R0 (hF as Qd hF') ⟨fun G' H' σ ρ fp' R q => key G' H' σ ρ fp' _ _ [] R (.dat .non) (fun _ z => nomatch z) (fun _ z => nomatch z) q, fun G' H' σ ρ fp' r v fr R ot t1 t2 q => key G' H' σ ρ fp' r v fr R ot t1 t2 q, fun _ _ _ _ _ _ z => z, fun _ _ _ _ _ _ z => z⟩
end
/-! ### isinstance with a built-in class, or with two; repr -/
section
variable {X : Cx} {io : List Nat} {e a b : Expr} {pos p : Pos} {fos : FOs} {K : PySem.W.Frag}
theorem c_blt {x : Str} {v : V} {u : Value} (hm : X.mg x = none) (hv : bootBuiltins x = some u) (r : RelV v u) (hg : Gl X x := by rfl) (hn : x ≠ "__name__" := by decide) (hd : (x == ("__debug__" : Str)) = false := by decide) : PDv X io (.Name x pos) (fC (.opq v)) :=
  ⟨_, pe_bltn hg hm hv r hn hd, fun B G H σ ρ fp Qd Q hB R hf k => k _ ρ v G H fp (Nxt.refl R) (.opq v) hf⟩
def dTy : DD → Option String
  | .non => some "NoneType"
  | .bl _ => some "bool"
  | .int _ => some "int"
  | .str _ => some "str"
  | .lst _ => some "list"
  | .tup _ => some "tuple"
  | .at_ _ (.lst _) => some "list"
  | _ => none
theorem Rq.tyX {G : Hp} {x : V} {d : DD} {T : String} (h : Rq K G x d) (e : dTy d = some T) : TyX K G x (.type T) := by
  cases h with
  | non => have := Option.some.inj e; subst this; exact .base .non
  | bl b => have := Option.some.inj e; subst this; exact .base (.bl b)
  | int b => have := Option.some.inj e; subst this; exact .base (.int b)
  | str b => have := Option.some.inj e; subst this; exact .base (.str b)
  | opq => cases e
  | exc => cases e
  | dct => cases e
  | lst h r =>
    have := Option.some.inj e
    subst this
    rcases h with h | ⟨o, h⟩
    · exact .base (.lst h)
    · exact .base (.frz h)
  | tup h r =>
    have := Option.some.inj e
    subst this
    rcases h with (h | ⟨o, h⟩) | ⟨o, its, n, h, hc, _⟩
    · exact .base (.tup h)
    · exact .fTuple h
    · exact .kTuple h hc
  | obj h r => cases e
  | klst => cases e
  | at_ h =>
    cases h with
    | lst h r =>
      have := Option.some.inj e
      subst this
      rcases h with h | ⟨o, h⟩
      · exact .base (.lst h)
      · exact .base (.frz h)
    | _ => cases e
theorem kit_all : ∀ T ∈ ["NoneType", "bool", "int", "str", "list", "tuple"], ∀ c ∈ ["list", "tuple", "str"], kitB T c = some (T == c) := by decide +kernel
theorem kit_of_ty {T c : String} (hT : T ∈ ["NoneType", "bool", "int", "str", "list", "tuple"]) (hc : c ∈ ["list", "tuple", "str"]) : kitB T c = some (T == c) := kit_all T hT c hc
theorem dTy_mem {d : DD} {T : String} (e : dTy d = some T) : T ∈ ["NoneType", "bool", "int", "str", "list", "tuple"] := by
  cases d <;> first | (have := Option.some.inj e; subst this; decide) | cases e | (rename_i d; cases d <;> first | (have := Option.some.inj e; subst this; decide) | cases e)
@[simp] def oIsi : OpN := fun ds P => (∃ d T c, ds = [d, .opq (.ty c)] ∧ dTy d = some T ∧ c ∈ ["list", "tuple", "str"] ∧ P (.bl (T == c))) ∨
  ∃ d T c1 c2, ds = [d, .tup [.opq (.ty c1), .opq (.ty c2)]] ∧ dTy d = some T ∧ c1 ∈ ["list", "tuple", "str"] ∧ c2 ∈ ["list", "tuple", "str"] ∧ P (.bl (T == c1 || T == c2))
def rIsiS (K : PySem.W.Frag) : List V → Hp → VK → Prop := fun xs H Q => ∃ (x : V) (tp : Addr) (cs : List V) (t : Value) (us : List Value) (b : Bool), xs = [x, .ref tp] ∧ SqT K H tp cs ∧ Paired ClsV cs us ∧ TyX K H x t ∧ PySem.W.kitAny K t us = some b ∧ Q (.bl b) H
theorem call_isiS : CallR X (.builtin "isinstance") (rIsiS X.K) := by
  intro pins s σ H xs us Q I r h
  obtain ⟨x, tp, cs, t, ws, b, rfl, hT, k, ty, e, q⟩ := h
  obtain ⟨u1, u2, rfl, r1, r2⟩ := vals2 r
  cases (show u2 = Value.ref tp from r2)
  obtain ⟨P, Z, p, hx⟩ := kit_of I r1 ty
  obtain ⟨its, rv, ⟨o, h1, h2, n, h3⟩, _⟩ := I.tuple hT
  have e3 := ClsV.all k rv
  subst e3
  obtain ⟨oc, od, dt, sl⟩ := o
  simp only at h2 h3
  subst h2 h3
  exact PySem.W.kia_tup Z I.kIn p h1 e hx fun tk => ⟨.bl b, H, I.tok tk, rfl, q⟩
theorem p_isi (hm : X.mg "isinstance" = none) (ha : PDos X io [a, b] fos) (hg : Gl X "isinstance" := by rfl) (he : starEach [a, b] X.env = (false, eval a X.env) :: starEach [b] X.env := by rfl) (hpl : (backTo pos (starEach [b] X.env)).any (·.1) = false := by rfl) : PDv X io (.Call (.Name "isinstance" p) [a, b] [] pos) (fCB oIsi fos) :=
  p_cb (r := fun xs H Q => rIsi X.K xs H Q ∨ rIsiS X.K xs H Q) (call_isi.or call_isiS) (fun H xs ds P Q hx h k => by
    rcases h with ⟨d, T, c, rfl, e, hc, q⟩ | ⟨d, T, c1, c2, rfl, e, h1, h2, q⟩
    · obtain ⟨x, y, rfl, r, s⟩ := hx.two
      have := s.opq_inv
      subst this
      exact .inl ⟨x, .ty c, _, _, _, rfl, .ty c, r.tyX e, kit_ty (kit_of_ty (dTy_mem e) hc), k _ _ q (.bl _)⟩
    · obtain ⟨x, y, rfl, r, s⟩ := hx.two
      obtain ⟨t, zs, rfl, ht, rs⟩ := s.tup_inv
      obtain ⟨z1, z2, rfl, r1, r2⟩ := rs.two
      have e1 := r1.opq_inv
      have e2 := r2.opq_inv
      subst e1 e2
      have kt : PySem.W.kitAny X.K (.type T) [.type c1, .type c2] = some (T == c1 || T == c2) := by
        refine kitAny_cons (kit_ty (kit_of_ty (dTy_mem e) h1)) (fun q1 => ?_) (fun q1 => by rw [q1]; rfl)
        refine kitAny_cons (kit_ty (kit_of_ty (dTy_mem e) h2)) (fun q2 => by rw [q1, q2]; exact kitAny_nil) (fun q2 => by rw [q2, Bool.or_true])
      exact .inr ⟨x, t, _, _, _, _, rfl, ht, .cons (.ty c1) (.cons (.ty c2) .nil), r.tyX e, kt, k _ _ q (.bl _)⟩) hm PyProof.Rows.boot_isinstance ha hg (by decide) (by decide) he hpl
mutual
theorem dp_nodict {H : Hp} : ∀ {x : V} {d : PyData}, Dp K H x d → d.hasDict = false
  | _, _, .non => by simp [PyData.hasDict]
  | _, _, .bl _ => by simp [PyData.hasDict]
  | _, _, .int _ => by simp [PyData.hasDict]
  | _, _, .str _ => by simp [PyData.hasDict]
  | _, _, .lst _ a => by simp only [PyData.hasDict]; exact dp_nodicts a
  | _, _, .tup _ a => by simp only [PyData.hasDict]; exact dp_nodicts a
theorem dp_nodicts {H : Hp} : ∀ {x : List V} {d : List PyData}, DpAll K H x d → PyData.hasDictAll d = false
  | _, _, .nil => by simp [PyData.hasDictAll]
  | _, _, .cons a b => by simp only [PyData.hasDictAll]; rw [dp_nodict a, dp_nodicts b]; rfl
end
/-! repr of ints of up to 12,900 bits, where no own limit of digits stands -/
/-- no own limit of digits is told -/
def LimK (K : PySem.W.Frag) : Prop := PySem.W.nsIn K cStatics "sys.int_max_str_digits" = some none
mutual
def shw : PyData → Bool
  | .none => true
  | .bool _ => true
  | .str _ => true
  | .int i => decide (i.natAbs.log2 < 12900)
  | .list l => shws l
  | .tuple l => shws l
  | .dict _ => false
def shws : List PyData → Bool
  | [] => true
  | x :: r => shw x && shws r
end
section
variable {prog : Program} {w : World} {A : Around} {E : Value → Shared → Prop} {s : Shared} {h₀ : Heap} {K : PySem.W.Frag}
theorem over_big {M : Model} {a : Int} {Q : Option Nat → Shared → Prop} (X : K.In s.heap) (l : LimK K) (h : a.natAbs.log2 < 12900) (q : Q none s) : wpAny M A (Builtin.overDigitLimit? a) Q E s := by
  by_cases h1 : a.natAbs.log2 < 1920
  · rw [PySem.overDigitLimit_small h1]; exact wpAny_pure q
  · unfold Builtin.overDigitLimit?
    rw [if_neg h1]
    refine wpAny_bind (m := Builtin.intMaxStrDigits) ?_
    unfold Builtin.intMaxStrDigits
    refine wpAny_bind ((PySem.W.looks_nsIn X l).here ?_)
    refine wpAny_pure ?_
    have e1 : ¬ (a.natAbs.log2 / 30 + 1 > 1000) := by omega
    have e2 : ((4300 : Nat) == 0 || decide (a.natAbs.log2 < 3 * 4300)) = true := by
      rw [decide_eq_true (by omega : a.natAbs.log2 < 3 * 4300)]; rfl
    show wpAny M A (if a.natAbs.log2 / 30 + 1 > 1000 then _ else (if ((4300 : Nat) == 0 || decide (a.natAbs.log2 < 3 * 4300)) = true then _ else _)) Q E s
    rw [if_neg e1, if_pos e2]
    exact wpAny_pure q
theorem big_text {a : Int} (h : a.natAbs.log2 < 12900) : (Str.ofString (toString a)).length ≤ 12901 := by
  rw [PySem.ofString_length]
  exact PySem.int_text_length_le (k := 12900) (by decide) h
theorem gives_big (a : Int) (t : Tok) (l : LimK K) (h : a.natAbs.log2 < 12900) : GivesAt (fun s => K.In s.heap) (Builtin.«int.__repr__» ⟨[.int a t], []⟩) (.str (toString a)) := by
  intro prog w A R s X hq
  unfold Builtin.«int.__repr__»
  show wpAny _ _ (do let r ← Builtin.overDigitLimit? a; _) _ _ _
  refine wpAny_bind (over_big X l h ?_)
  exact wpAny_bind (wpAny_mkStr (wpAny_pure hq.2) hq.1)
theorem repr_big {a : Int} {t : Tok} {Q : Value → Shared → Prop} (X : K.In s.heap) (l : LimK K) (h : a.natAbs.log2 < 12900) (q : Q (.str (toString a) s.toks) { s with toks := s.toks + 1 }) : wpAny (model prog w) A (pyReprObj (.int a t)) Q E s := by
  unfold pyReprObj
  simp only [cRoomFor, List.any, Value.onHeap, Bool.or_self, Bool.false_eq_true, if_false, pure_bind]
  refine wpAny_bind (wpAny_specialOf (name := Str.ofString "__repr__") (typeIs_int s a t) F.slot_int_repr.lookup ?_)
  refine wpAny_bind (m := callSpecialIfBound? (.int a t) (Str.ofString "__repr__")) (wpAny_callSpecialIfBound?_slot (name := Str.ofString "__repr__") (typeIs_int s a t) F.slot_int_repr
    (call_givesAt F.slot_int_repr (typeIs_int s a t) F.entry_int_repr (F.args_int_repr_1 _) (gives_big a t l h) X ⟨Nat.le_trans (big_text h) (by decide), ?_⟩))
  exact wpAny_bind (wpAny_isInstance (T := "str") (b := true) rfl isSubtype_str_str (wpAny_pure q))
theorem ReprK.big {a : Int} (t : Tok) (X : K.In h₀) (l : LimK K) (h : a.natAbs.log2 < 12900) (as : List Addr) (d : Nat) : ReprK prog w as h₀ d (.int a t) (toString a) := fun n hn A _ E s Q _ _ _ hk hQ => by
  have hn' : n ≤ sizeLine := by omega
  rw [pyReprUnder_leaf (v := .int a t) hn' (fun _ e => nomatch e)]
  unfold pyRepr
  exact wpAny_bind (repr_big (X.keeps hk) l h (wpAny_pure (hQ s.heap _ fun _ _ e => e)))
mutual
theorem shown_of (X : K.In h₀) (l : LimK K) : ∀ {v : Value} {d : PyData} {as : List Addr}, Reads h₀ v d as → shw d = true → d.shown.length ≤ sizeLine → ∃ bs, ReadAtMost h₀ d.depth bs ∧ ReprK prog w bs h₀ d.depth v d.shown
  | _, _, _, .none, _, _ => ⟨[], (fun _ h => nomatch h), by simp only [PyData.shown]; exact .of_is ReprIs.none _ _ _⟩
  | _, _, _, .bool b, _, _ => ⟨[], (fun _ h => nomatch h), by simp only [PyData.shown]; exact .of_is (ReprIs.bool b) _ _ _⟩
  | _, _, _, .int i t, hs, _ => ⟨[], (fun _ h => nomatch h), by simp only [PyData.shown]; exact ReprK.big t X l (by simpa [shw] using hs) _ _⟩
  | _, _, _, .str x t, _, hz => ⟨[], (fun _ h => nomatch h), by simp only [PyData.shown]; exact .of_is (ReprIs.str x t (by simpa only [PyData.shown] using hz)) _ _ _⟩
  | _, _, _, .list (a := a) (vs := vs) (xs := xs) h1 h2 h3 h4, hs, hz => by
    have tz : (listText (PyData.shownAll xs)).length ≤ sizeLine := by simpa only [PyData.shown] using hz
    obtain ⟨bs, hb, hk⟩ := shown_all X l h4 (by simpa [shw] using hs) (fun t ht => Nat.le_trans (listText_mem_le ht) tz)
    have r : Reads h₀ (.ref a) (.list xs) _ := .list h1 h2 h3 h4
    have out : a ∉ bs := not_mem_of_deeper r (by simp only [PyData.depth]; omega) hb
    refine ⟨a :: bs, ReadAtMost.cons r (by simp only [PyData.depth]; omega) hb, ?_⟩
    simp only [PyData.depth, PyData.shown]
    obtain ⟨us⟩ := vs
    cases us with
    | nil =>
      have h5 : ReadsAll h₀ [] xs _ := h4
      cases h5
      simp only [PyData.shownAll, listText_nil]
      exact ReprK.listEmpty h1 h2 h3
    | cons x us => exact ReprK.list h1 h2 h3 out (by simpa using hk.length_eq) (fun i y e => hk.item i y (by simpa using e))
  | _, _, _, .tuple (a := a) (xs := xs) h1 h2 h3 h4, hs, hz => by
    have tz : (tupleText (PyData.shownAll xs)).length ≤ sizeLine := by simpa only [PyData.shown] using hz
    obtain ⟨bs, hb, hk⟩ := shown_all X l h4 (by simpa [shw] using hs) (fun t ht => Nat.le_trans (tupleText_mem_le ht) tz)
    have r : Reads h₀ (.ref a) (.tuple xs) _ := .tuple h1 h2 h3 h4
    have out : a ∉ bs := not_mem_of_deeper r (by simp only [PyData.depth]; omega) hb
    refine ⟨a :: bs, ReadAtMost.cons r (by simp only [PyData.depth]; omega) hb, ?_⟩
    simp only [PyData.depth, PyData.shown]
    exact ReprK.tuple h1 h2 h3 out hk
  | _, _, _, .dict _ _ _ _ _, hs, _ => by simp [shw] at hs
theorem shown_all (X : K.In h₀) (l : LimK K) : ∀ {vs : List Value} {ds : List PyData} {as : List Addr}, ReadsAll h₀ vs ds as → shws ds = true → (∀ t ∈ PyData.shownAll ds, t.length ≤ sizeLine) →
    ∃ bs, ReadAtMost h₀ (PyData.depthAll ds) bs ∧ ReprAllK prog w bs h₀ (PyData.depthAll ds) vs (PyData.shownAll ds)
  | _, _, _, .nil, _, _ => ⟨[], (fun _ h => nomatch h), by simp only [PyData.shownAll]; exact .nil⟩
  | _, _, _, .cons (d := d) (ds := ds) r rs, hs, hz => by
    have hs2 : shw d = true ∧ shws ds = true := by simpa [shws] using hs
    obtain ⟨b1, hb1, k1⟩ := shown_of X l r hs2.1 (hz _ (by simp only [PyData.shownAll]; exact List.mem_cons_self ..))
    obtain ⟨b2, hb2, k2⟩ := shown_all X l rs hs2.2 (fun t ht => hz t (by simp only [PyData.shownAll]; exact List.mem_cons_of_mem _ ht))
    refine ⟨b1 ++ b2, fun b hm => ?_, ?_⟩
    · simp only [PyData.depthAll]
      rcases List.mem_append.mp hm with hm | hm
      · obtain ⟨d1, as1, r1, hd1⟩ := hb1 b hm
        exact ⟨d1, as1, r1, Nat.le_trans hd1 (Nat.le_max_left _ _)⟩
      · obtain ⟨d1, as1, r1, hd1⟩ := hb2 b hm
        exact ⟨d1, as1, r1, Nat.le_trans hd1 (Nat.le_max_right _ _)⟩
    · simp only [PyData.depthAll, PyData.shownAll]
      exact .cons ((k1.more fun b hb => List.mem_append_left _ hb).level_le (Nat.le_max_left _ _)) (k2.more_le (fun b hb => List.mem_append_right _ hb) (Nat.le_max_right _ _))
end
/-- a list or a tuple, by repr -/
theorem repr_seq {a : Addr} {d : PyData} {as : List Addr} {Q : Value → Shared → Prop} (X : K.In s.heap) (l : LimK K) (r : Reads s.heap (.ref a) d as) (hs : shw d = true) (hg : A.guards = some []) (hu : A.units + (d.depth + 1) < cLine) (hz : d.shown.length ≤ sizeLine)
    (hQ : ∀ h' u tk, (∀ b o, s.heap.get? b = some o → h'.get? b = some o) → Q (.str d.shown u) { s with heap := h', toks := tk }) : wpAny (model prog w) A (call (.builtin "repr") [.ref a]) Q E s := by
  have hu1 : A.in1.units + d.depth < cLine := by show A.units + 1 + d.depth < cLine; omega
  cases r with
  | list h1 h2 h3 h4 =>
    rename_i o vs n xs bs₀
    have tz : (listText (PyData.shownAll xs)).length ≤ sizeLine := by simpa only [PyData.shown] using hz
    obtain ⟨bs, hb, hk⟩ := shown_all (prog := prog) (w := w) X l h4 (by simpa [shw] using hs) (fun t ht => Nat.le_trans (listText_mem_le ht) tz)
    have out : a ∉ bs := not_mem_of_deeper (.list h1 h2 h3 h4) (by simp only [PyData.depth]; omega) hb
    simp only [PyData.depth] at hu1
    simp only [PyData.shown] at hQ
    refine call_repr_slot (by omega) ⟨o, h1, h2⟩ F.slot_list_repr.toG ?_
    obtain ⟨us⟩ := vs
    cases us with
    | nil =>
      have h5 : ReadsAll s.heap [] xs _ := h4
      cases h5
      simp only [PyData.shownAll, listText_nil] at hQ
      exact call_list_repr_empty ⟨o, h1, h2⟩ h1 h3 ⟨_, _, rfl, hQ s.heap _ _ fun _ _ e => e⟩
    | cons x us =>
      exact call_list_reprK (h₀ := s.heap) h1 h2 h3 out (by simpa using hk.length_eq) (fun i y e => hk.item i y (by simpa using e)) hg (fun b _ => Clear.nil b) hu1 (fun _ _ e => e) (fun h' u tk k => ⟨_, _, rfl, hQ h' u tk k⟩) tz
  | tuple h1 h2 h3 h4 =>
    rename_i o vs n xs
    have tz : (tupleText (PyData.shownAll xs)).length ≤ sizeLine := by simpa only [PyData.shown] using hz
    obtain ⟨bs, hb, hk⟩ := shown_all (prog := prog) (w := w) X l h4 (by simpa [shw] using hs) (fun t ht => Nat.le_trans (tupleText_mem_le ht) tz)
    have out : a ∉ bs := not_mem_of_deeper (.tuple h1 h2 h3 h4) (by simp only [PyData.depth]; omega) hb
    simp only [PyData.depth] at hu1
    simp only [PyData.shown] at hQ
    refine call_repr_slot (by omega) ⟨o, h1, h2⟩ F.slot_tuple_repr ?_
    exact call_tuple_reprK (h₀ := s.heap) h1 h2 h3 out hk hg (fun b _ => Clear.nil b) hu1 (fun _ _ e => e) (fun h' u tk k => ⟨_, _, rfl, hQ h' u tk k⟩) tz
  | dict h1 h2 h3 h4 h5 => simp [shw] at hs
theorem repr_int {a : Int} {t : Tok} {Q : Value → Shared → Prop} (X : K.In s.heap) (l : LimK K) (h : a.natAbs.log2 < 12900) (q : Q (.str (toString a) s.toks) { s with toks := s.toks + 1 }) : wpAny (model prog w) A (call (.builtin "repr") [.int a t]) Q E s := by
  refine Calls.call_function_entry F.kind_repr F.plain_repr F.entry_repr (F.args_repr1 _) ?_
  unfold Builtin.«repr»
  refine wpAny_bind (m := oneArg "repr" _) (wpAny_pure ?_)
  simp only [cRoomFor, List.any, Value.onHeap, Bool.or_self, Bool.false_eq_true, if_false, pure_bind]
  refine wpAny_bind (wpAny_specialOf (name := Str.ofString "__repr__") (typeIs_int s a t) F.slot_int_repr.lookup ?_)
  refine wpAny_bind (m := callSpecialIfBound? (.int a t) (Str.ofString "__repr__")) (wpAny_callSpecialIfBound?_slot (name := Str.ofString "__repr__") (typeIs_int s a t) F.slot_int_repr
    (call_givesAt F.slot_int_repr (typeIs_int s a t) F.entry_int_repr (F.args_int_repr_1 _) (gives_big a t l h) X ⟨Nat.le_trans (big_text h) (by decide), ?_⟩))
  refine wpAny_bind (wpAny_isInstance (T := "str") (b := true) rfl isSubtype_str_str ?_)
  exact wpAny_pure ⟨_, rfl, q⟩
end
/-- repr -/
def rRepr (K : PySem.W.Frag) : List V → Hp → VK → Prop := fun xs H Q => ∃ x d, xs = [x] ∧ Dp K H x d ∧ shw d = true ∧ d.shown.length ≤ sizeLine ∧ d.depth ≤ 60 ∧ Q (.str d.shown) H
theorem call_reprD {k : Nat} (kl : LimK X.K) (hr : RoomG k X.A) : CallR X (.builtin "repr") (rRepr X.K) := by
  intro pins s σ H xs us Q I r h
  obtain ⟨x, d, rfl, hd, hs, hz, hdep, q⟩ := h
  obtain ⟨u, rfl, ru⟩ := vals1 r
  obtain ⟨as, rd⟩ := Dp.reads I d x u hd ru
  have hu := hr.r.un
  have hu' : X.A.units + (d.depth + 1) < cLine := by omega
  have big : ∀ {a : Addr}, Reads s.heap (.ref a) d as → wpAny (model X.prog X.w) X.A (call (.builtin "repr") [.ref a]) (EP X pins σ Q) X.xe s := fun rd =>
    repr_seq I.kIn kl rd hs hr.g hu' hz (fun h' u tk hk => ⟨.str d.shown, H, I.kept (t' := tk) hk, ⟨_, rfl⟩, q⟩)
  cases hd with
  | non => cases ru; exact PySem.P.repr_of_none ⟨.str _, H, I.tok _, ⟨_, rfl⟩, by simpa [PyData.shown] using q⟩
  | bl b => cases ru; exact PySem.P.repr_of_bool ⟨.str _, H, I.tok _, ⟨_, rfl⟩, by simpa [PyData.shown] using q⟩
  | int i =>
    obtain ⟨t, rfl⟩ := ru
    exact repr_int I.kIn kl (by simpa [shw] using hs) ⟨.str _, H, I.tok _, ⟨_, rfl⟩, by simpa [PyData.shown] using q⟩
  | str z =>
    obtain ⟨t, rfl⟩ := ru
    exact PySem.P.repr_of_str ⟨.str _, H, I.tok _, ⟨_, rfl⟩, by simpa [PyData.shown] using q⟩ (by simpa [PyData.shown] using hz)
  | lst h a => cases ru; exact big rd
  | tup h a => cases ru; exact big rd
def shD (d : DD) : Str := d.py.shown
def okR (d : DD) : Prop := d.pure = true ∧ shw d.py = true ∧ (shD d).length ≤ sizeLine ∧ d.py.depth ≤ 60
@[simp] def oRepr : OpN := fun ds P => ∃ d, ds = [d] ∧ okR d ∧ P (.str (shD d))
theorem p_repr {k : Nat} (kl : LimK X.K) (hr : RoomG k X.A) (hm : X.mg "repr" = none) (ha : PDos X io [e] fos) (hg : Gl X "repr" := by rfl) (he : starEach [e] X.env = (false, eval e X.env) :: starEach [] X.env := by rfl) : PDv X io (.Call (.Name "repr" p) [e] [] pos) (fCB oRepr fos) :=
  p_cb (call_reprD kl hr) (fun H xs ds P Q hx h k => by
    obtain ⟨d, rfl, ⟨h1, h2, h3, h4⟩, q⟩ := h
    obtain ⟨x, rfl, r⟩ := hx.one
    exact ⟨x, _, rfl, r.dp h1, h2, h3, h4, k _ _ q (.str _)⟩) hm PyProof.Rows.boot_repr ha hg (by decide) (by decide) he
end
end DL

namespace DL
open PySem PySem.Spec PyProof.Rows L2
section
variable {X : Cx} {io : List Nat} {e : Expr}
/-- the slot's tree is data from now on -/
@[simp] def fSeal (io : List Nat) (i : Nat) : FV := fun ρ Q => ∃ t, ρ[i]? = some (some t) ∧ i ∉ io ∧ Q t.data (ρ.set i (some (.dat t.data)))
theorem n_sl {te : TE} (i : Nat) (h : PE X e te) (ht : te = tVar i) : PDv X io e (fSeal io i) := by
  subst ht
  refine ⟨_, h, fun B G H σ ρ fp Qd Q hB R hf k => ?_⟩
  obtain ⟨t, e1, ni, q⟩ := hf
  obtain ⟨v, e2, ot⟩ := R.co.slot i _ e1
  have hi : i ∉ B.io := by rw [hB]; exact ni
  have inn : ∀ a, In (fun j => if j = i then [] else fp j) a → In fp a := fun a ⟨j, m⟩ => by
    by_cases e1 : j = i
    · simp [e1] at m
    · simp only [if_neg e1] at m
      exact ⟨j, m⟩
  have n1 : Nxt X.K B σ G H fp G H (ρ.set i none) (fun j => if j = i then [] else fp j) := ⟨R.drop i hi, Stp.refl G H, fun a h => .inl (inn a h)⟩
  obtain ⟨n2, rq⟩ := Nxt.sealed R n1 ot (fun a m ⟨j, m'⟩ => by
    by_cases e1 : j = i
    · simp [e1] at m'
    · simp only [if_neg e1] at m'
      exact e1 (R.co.dis j i a m' m)) (fun a m => .inr ⟨i, m⟩)
  have R3 := n2.rp.put (i := i) hi (.dat rq) (fun _ z => nomatch z) (fun _ z => nomatch z)
  have es : σ.set i (some v) = σ := by
    apply List.ext_getElem?
    intro j
    by_cases e : j = i
    · subst e
      rw [e2, List.getElem?_set_self (List.getElem?_eq_some_iff.mp e2).1]
    · rw [List.getElem?_set_ne (Ne.symm e)]
  rw [es, List.set_set] at R3
  refine ⟨v, e2, k _ _ v _ H _ ⟨R3, n2.st, fun a ⟨j, m⟩ => ?_⟩ rq q⟩
  by_cases e : j = i
  · simp [e] at m
  · simp only [if_neg e] at m
    exact n2.inn a ⟨j, by simp only [if_neg e]; exact m⟩
end
def datB : SV → Bool
  | .dat _ => true
  | _ => false
def shpG (io : List Nat) : Nat → List SV → Bool
  | _, [] => true
  | k, t :: r => (decide (k ∈ io) || datB t) && shpG io (k + 1) r
def shp (n : Nat) (io : List Nat) (as : List SV) : Bool := decide (as.length = n) && shpG io 0 as
theorem shpG_of {io : List Nat} : ∀ {as : List SV} {k i : Nat} {t : SV}, shpG io k as = true → as[i]? = some t → k + i ∈ io ∨ ∃ d, t = .dat d
  | [], _, _, _, _, h => by simp at h
  | a :: r, k, 0, t, h, e => by
    simp at e; subst e
    simp [shpG] at h
    rcases h.1 with z | z
    · exact .inl (by simpa using z)
    · cases a with
      | dat d => exact .inr ⟨d, rfl⟩
      | own _ => cases z
      | ob _ _ => cases z
      | tp _ => cases z
      | ex _ _ _ _ => cases z
  | a :: r, k, i + 1, t, h, e => by
    simp [shpG] at h
    have := shpG_of (i := i) h.2 (by simpa using e)
    have ee : k + 1 + i = k + (i + 1) := by omega
    rwa [ee] at this
section
variable {P : Program} {w : World} {K : PySem.W.Frag} {mg : Str → Option Value} {base : Heap} {f : Addr} {fd : FuncData} {x qual : Str} {params : Arguments} {body : List Stmt} {scope : Scope} {N ps : List Str} {k : Nat}
theorem okF {F : Ctr} (io : List Nat) {fs : FS} (F0 : FunD K x qual params body scope [] [] f fd) (S : FnScope N ps scope)
    (hbody : ∀ (cdv : Value) (A : Around) (outer : List Env) (s : Shared) (H : Hp) (E : XK), RoomG k (A.deeper (envOfC qual scope s.heap.objs.size f cdv)) → PDss (cxOf CX0 P w K mg base N qual scope f cdv A outer s H E).nox io body fs)
    (hsh : ∀ as Q, F as Q → shp ps.length io as = true) (hil : (io.all fun i => decide (i < ps.length)) = true)
    (hF : ∀ as Q, F as Q → fs ⟨fun ρ => Q (.dat .non) (outs io as ρ), fun r ρ => Q r (outs io as ρ), fun _ => False, fun _ => False⟩ (as.map some ++ List.replicate (N.length - ps.length) none)) :
    FnG P w K mg base CX0 (k + 1) f fd ps (spD K F) := by
  have h1 : ∀ as Q, F as Q → as.length = ps.length ∧ shpG io 0 as = true := fun as Q h => by
    have := hsh as Q h
    unfold shp at this
    simpa using this
  exact okG F0 S hbody (fun as Q h => (h1 as Q h).1) (fun as Q h i t e => by simpa using shpG_of (h1 as Q h).2 e) (fun i m => of_decide_eq_true (List.all_eq_true.mp hil i m)) hF
/-- with the module's name -/
theorem hsF {F : Ctr} (G : FnG P w K mg base CX0 k f fd ps (spD K F)) (hm : mg x = some (.ref f)) (F0 : FunD K x qual params body scope [] [] f fd)
    (hb : ∀ (kV doc pm : Value) (an : Option Addr) (cdv ct : Value) (us : List Value), us.length = ps.length → bindArgs (PySem.W.fnOf x qual params body scope .none kV doc pm an cdv ct) ⟨us, []⟩ = pure (ps.zip us)) : Hs P w K mg base x ps k F :=
  ⟨f, fd, hm, F0.kp, F0.bindsN hb, G⟩
end
end DL

namespace DL
open PySem PySem.Spec PyProof.Rows L2
@[simp] theorem sizeLine_v : sizeLine = 2 ^ 24 := rfl
@[simp] theorem and_assoc_s {p q r : Prop} : (p ∧ q) ∧ r ↔ p ∧ q ∧ r := and_assoc
@[simp] theorem outs_u (io : List Nat) (as : List SV) (ρ : Rho) : outs io as ρ = if io = [] then as else outsG io ρ 0 as := rfl
@[simp] theorem outsG_nil (io : List Nat) (ρ : Rho) (k : Nat) : outsG io ρ k [] = [] := rfl
@[simp] theorem outsG_cons (io : List Nat) (ρ : Rho) (k : Nat) (t : SV) (r : List SV) : outsG io ρ k (t :: r) = (if k ∈ io then (ρ[k]?.join).getD t else t) :: outsG io ρ (k + 1) r := rfl
section
variable {a b : Int} {x y : Str} {p q : Bool} {l m : List DD}
theorem ieq {a b : Int} : (a == b) = decide (a = b) := by rw [Bool.eq_iff_iff]; simp
@[simp] theorem okD_int : okD (.int a) = true := by simp [okD, DD.pure, DD.py, SeqAt.shaped, PyData.canLay0, PyData.depth]
@[simp] theorem okD_bl : okD (.bl p) = true := by simp [okD, DD.pure, DD.py, SeqAt.shaped, PyData.canLay0, PyData.depth]
@[simp] theorem okD_non : okD .non = true := by simp [okD, DD.pure, DD.py, SeqAt.shaped, PyData.canLay0, PyData.depth]
@[simp] theorem eqD_int : eqD (.int a) (.int b) = decide (a = b) := by simp [eqD, DD.py, PyData.eqv, ieq]
theorem okD_ints {l : List Int} : DD.pures (l.map .int) = true ∧ PyData.canLayAll0 (DD.pys (l.map .int)) = true ∧ PyData.depthAll (DD.pys (l.map .int)) = 0 := by
  induction l with
  | nil => simp [DD.pures, DD.pys, PyData.canLayAll0, PyData.depthAll]
  | cons x l ih => simp [DD.pures, DD.pys, PyData.canLayAll0, PyData.depthAll, DD.pure, DD.py, PyData.canLay0, PyData.depth, ih]
@[simp] theorem okD_lint {l : List Int} : okD (.lst (l.map .int)) = true := by simp [okD, DD.pure, DD.py, SeqAt.shaped, PyData.canLay0, PyData.depth, okD_ints]
@[simp] theorem okD_tint {l : List Int} : okD (.tup (l.map .int)) = true := by simp [okD, DD.pure, DD.py, SeqAt.shaped, PyData.canLay0, PyData.depth, okD_ints]
@[simp] theorem okD_nil : okD (.lst []) = true := okD_lint (l := [])
@[simp] theorem okD_two : okD (.tup [.int a, .int b]) = true := okD_tint (l := [a, b])
theorem eqD_ints : ∀ {l m : List Int}, PyData.eqvAll (DD.pys (l.map .int)) (DD.pys (m.map .int)) = decide (l = m)
  | [], [] => by simp [DD.pys, PyData.eqvAll]
  | [], _ :: _ => by simp [DD.pys, PyData.eqvAll]
  | _ :: _, [] => by simp [DD.pys, PyData.eqvAll]
  | x :: l, y :: m => by
    have ih := eqD_ints (l := l) (m := m)
    simp only [List.map_cons, DD.pys, PyData.eqvAll, DD.py, PyData.eqv, ih, List.cons.injEq, ieq, Bool.decide_and]
@[simp] theorem eqD_lint {l m : List Int} : eqD (.lst (l.map .int)) (.lst (m.map .int)) = decide (l = m) := by simp [eqD, DD.py, PyData.eqv, eqD_ints]
@[simp] theorem eqD_lnil {l : List Int} : eqD (.lst (l.map .int)) (.lst []) = decide (l = []) := eqD_lint (m := [])
@[simp] theorem eqD_tint {l m : List Int} : eqD (.tup (l.map .int)) (.tup (m.map .int)) = decide (l = m) := by simp [eqD, DD.py, PyData.eqv, eqD_ints]
end
end DL

namespace DL
open PySem PySem.Spec PyProof.Rows L2
/-! indices -/
section
variable {α β : Type} {l : List α} {n k : Nat}
theorem ixN_nat (h : k < n) : ixN n (k : Int) = some k := by
  unfold ixN
  first | (simp [h]; done) | (simp; omega) | skip
theorem atI_map (g : α → β) (i : Int) : atI (l.map g) i = (atI l i).map g := by
  unfold atI
  rw [List.length_map]
  cases ixN l.length i with
  | none => rfl
  | some j => simp
end
section
variable {α : Type} {ds : List DD} {ts : List SV} {i k : Int} {x : Str} {P : DD → Prop} {Q : SV → Prop} {R : List DD → Prop} {lo hi : Option Int} {C : Addr}
@[simp] theorem ixT_lst : ixT (.dat (.lst ds)) i P ↔ ∃ d, atI ds i = some d ∧ P d := Iff.rfl
@[simp] theorem ixT_klst : ixT (.dat (.klst ds)) i P ↔ ∃ d, atI ds i = some d ∧ P d := Iff.rfl
@[simp] theorem ixT_tup : ixT (.dat (.tup ds)) i P ↔ ∃ d, atI ds i = some d ∧ P d := Iff.rfl
@[simp] theorem ixT_str : ixT (.dat (.str x)) i P ↔ ∃ c, x.length ≤ sizeLine ∧ atI x.cps.toList i = some c ∧ P (.str ⟨#[c]⟩) := Iff.rfl
@[simp] theorem ixT_own : ixT (.own ts) i P ↔ ∃ d, atI ts i = some (.dat d) ∧ P d := Iff.rfl
@[simp] theorem slT_lst : slT (.dat (.lst ds)) lo hi Q ↔ Q (.own ((cutD ds lo hi).map .dat)) := Iff.rfl
@[simp] theorem slT_own : slT (.own ts) lo hi Q ↔ ∃ ds : List DD, cutD ts lo hi = ds.map SV.dat ∧ Q (.own (ds.map SV.dat)) := Iff.rfl
@[simp] theorem slT_str : slT (.dat (.str x)) lo hi Q ↔ x.length ≤ sizeLine ∧ Q (.dat (.str (cutS x lo hi))) := Iff.rfl
@[simp] theorem lstT_lst : lstT (.dat (.lst ds)) R ↔ R ds := Iff.rfl
@[simp] theorem lstT_tup : lstT (.dat (.tup ds)) R ↔ R ds := Iff.rfl
@[simp] theorem lstT_own : lstT (.own ts) R ↔ ∃ ds : List DD, ts = ds.map SV.dat ∧ R ds := Iff.rfl
@[simp] theorem addT_int {j : Int} : addT (.dat (.int i)) (.dat (.int j)) Q ↔ Q (.dat (.int (i + j))) := Iff.rfl
@[simp] theorem addT_str {y : Str} : addT (.dat (.str x)) (.dat (.str y)) Q ↔ x.length + y.length ≤ sizeLine ∧ Q (.dat (.str (x ++ y))) := Iff.rfl
@[simp] theorem addT_own {t : SV} : addT (.own ts) t Q ↔ ∃ l m, itemsT (.own ts) = some l ∧ itemsT t = some m ∧ l.length + m.length ≤ sizeLine ∧ Q (.own (l ++ m)) := by cases t <;> exact Iff.rfl
@[simp] theorem addT_lst {t : SV} : addT (.dat (.lst ds)) t Q ↔ ∃ l m, itemsT (.dat (.lst ds)) = some l ∧ itemsT t = some m ∧ l.length + m.length ≤ sizeLine ∧ Q (.own (l ++ m)) := by
  cases t with
  | dat d => cases d <;> exact Iff.rfl
  | _ => exact Iff.rfl
@[simp] theorem data_own : (SV.own ts).data = .lst (ts.map SV.data) := by simp [SV.data, SV.datas_eq]
@[simp] theorem map_dat_data : (ds.map SV.dat).map SV.data = ds := by
  induction ds with
  | nil => rfl
  | cons d r ih => simp [ih]
@[simp] theorem comp_dat : SV.data ∘ SV.dat = id := by funext d; simp
@[simp] theorem atI_cons0 {a : α} {l : List α} : atI (a :: l) 0 = some a := by
  have := ixN_nat (n := (a :: l).length) (k := 0) (by simp)
  unfold atI
  rw [show (0 : Int) = ((0 : Nat) : Int) from rfl, this]
  rfl
@[simp] theorem atI_cons1 {a b : α} {l : List α} : atI (a :: b :: l) 1 = some b := by
  have := ixN_nat (n := (a :: b :: l).length) (k := 1) (by simp)
  unfold atI
  rw [show (1 : Int) = ((1 : Nat) : Int) from rfl, this]
  rfl
@[simp] theorem atI_cons2 {a b c : α} {l : List α} : atI (a :: b :: c :: l) 2 = some c := by
  have := ixN_nat (n := (a :: b :: c :: l).length) (k := 2) (by simp)
  unfold atI
  rw [show (2 : Int) = ((2 : Nat) : Int) from rfl, this]
  rfl
theorem atI_nat {l : List α} {n : Nat} (h : n < l.length) : atI l (n : Int) = some l[n] := by
  unfold atI
  rw [ixN_nat h]
  simp [h]
theorem atI_end {l : List α} : atI l (-1) = l.getLast? := by
  unfold atI ixN
  cases l with
  | nil => simp
  | cons a l =>
    have : (1 : Int) ≤ l.length + 1 := by omega
    have e : (-1 + ((l.length : Int) + 1)).toNat = l.length := by omega
    simp [List.getLast?_eq_getElem?, this, e]
theorem atI_mapI {l : List Int} {i : Int} : atI (l.map DD.int) i = (atI l i).map DD.int := atI_map _ _
@[simp] theorem dats_nil {l : List DD} : ([] = l.map SV.dat) ↔ l = [] := by cases l <;> simp
@[simp] theorem dats_cons {d : SV} {t : List SV} {l : List DD} : (d :: t = l.map SV.dat) ↔ ∃ e r, l = e :: r ∧ d = .dat e ∧ t = r.map SV.dat := by
  constructor
  · intro h
    cases l with
    | nil => cases h
    | cons e r => exact ⟨e, r, rfl, by simpa using h⟩
  · rintro ⟨e, r, rfl, rfl, rfl⟩; rfl
@[simp] theorem dats_inj {l m : List DD} : (l.map SV.dat = m.map SV.dat) ↔ l = m := by
  constructor
  · intro h
    have := congrArg (List.map SV.data) h
    rwa [map_dat_data, map_dat_data] at this
  · rintro rfl; rfl
@[simp] theorem ints_dats {l : List Int} {m : List DD} : (l.map (fun i => SV.dat (.int i)) = m.map SV.dat) ↔ m = l.map .int := by
  have : l.map (fun i => SV.dat (.int i)) = (l.map DD.int).map SV.dat := by simp
  rw [this, dats_inj]
  exact eq_comm
theorem cutD_map {β : Type} (g : α → β) {l : List α} : cutD (l.map g) lo hi = (cutD l lo hi).map g := by
  unfold cutD
  simp
theorem cut_to {l : List α} {n : Nat} (h : n ≤ l.length) : cutD l none (some (n : Int)) = l.take n := by
  unfold cutD
  rw [HT.sIx_none, HT.sIx_nat, Nat.min_eq_left h]
  simp
@[simp] theorem cut_zero {l : List α} : DL.cutD l none (some 0) = [] := cut_to (n := 0) (Nat.zero_le _)
theorem cut_from {l : List α} {n : Nat} : cutD l (some (n : Int)) none = l.drop n := by
  unfold cutD
  rw [HT.sIx_none, HT.sIx_nat]
  by_cases h : n ≤ l.length
  · rw [Nat.min_eq_left h]
    apply List.take_of_length_le
    simp
  · rw [Nat.min_eq_right (by omega)]
    simp
    omega
end
/-! loops, told apart from what is walked -/
def forB (fg : FG) (f : FS) (ds : List DD) (D : DEnds) (ρ1 : Rho) : Prop := ∃ W : Nat → Rho → Prop, W 0 ρ1 ∧ (∀ (i : Nat) d ρ, ds[i]? = some d → W i ρ → fg d ρ fun ρ2 => f { D with nx := W (i + 1), ct := W (i + 1), bk := D.nx } ρ2) ∧ ∀ ρ, W ds.length ρ → D.nx ρ
@[simp] theorem fFor_app {fi : FI} {fg : FG} {f : FS} {D : DEnds} {ρ : Rho} : fFor fi fg f D ρ = fi ρ fun ds ρ1 => forB fg f ds D ρ1 := rfl
def lcB (fg : FG) (ft : FT) (fe : FE) (vs : List Nat) (ds : List DD) (Q : SV → Rho → Prop) (ρ1 : Rho) : Prop := ∃ W : Nat → List SV → Rho → Prop, W 0 [] ρ1 ∧
  (∀ (i : Nat) d acc ρ, ds[i]? = some d → W i acc ρ → plainB ρ vs = true ∧ fg d (wipeR ρ vs) fun ρ2 => ft ρ2 fun b ρ3 => if b = true then fe ρ3 fun r ρ4 => acc.length < sizeLine ∧ W (i + 1) (acc ++ [r]) (unwipe ρ4 ρ vs) else W (i + 1) acc (unwipe ρ3 ρ vs)) ∧
  ∀ acc ρ, W ds.length acc ρ → Q (.own acc) ρ
@[simp] theorem fLc_app {io : List Nat} {fi : FI} {fg : FG} {ft : FT} {fe : FE} {vs : List Nat} {ρ : Rho} {Q : SV → Rho → Prop} : fLc io fi fg ft fe vs ρ Q = fi ρ fun ds ρ1 => (∀ v ∈ vs, v ∉ io) ∧ lcB fg ft fe vs ds Q ρ1 := rfl
section
variable {fg : FG} {ft : FT} {fe : FE} {vs : List Nat} {ds : List DD} {Q : SV → Rho → Prop} {ρ1 : Rho} {f : FS} {D : DEnds}
theorem for_inv (W : Nat → Rho → Prop) (h0 : W 0 ρ1) (hs : ∀ (i : Nat) d ρ, ds[i]? = some d → W i ρ → fg d ρ fun ρ2 => f { D with nx := W (i + 1), ct := W (i + 1), bk := D.nx } ρ2) (hd : ∀ ρ, W ds.length ρ → D.nx ρ) : forB fg f ds D ρ1 := ⟨W, h0, hs, hd⟩
theorem lc_inv (W : Nat → List SV → Rho → Prop) (h0 : W 0 [] ρ1) (hs : ∀ (i : Nat) d acc ρ, ds[i]? = some d → W i acc ρ → plainB ρ vs = true ∧ fg d (wipeR ρ vs) fun ρ2 => ft ρ2 fun b ρ3 => if b = true then fe ρ3 fun r ρ4 => acc.length < sizeLine ∧ W (i + 1) (acc ++ [r]) (unwipe ρ4 ρ vs) else W (i + 1) acc (unwipe ρ3 ρ vs))
    (hd : ∀ acc ρ, W ds.length acc ρ → Q (.own acc) ρ) : lcB fg ft fe vs ds Q ρ1 := ⟨W, h0, hs, hd⟩
/-- each item by itself, the state untouched -/
theorem lc_map (g : DD → SV) (hl : ds.length ≤ sizeLine) (hp : plainB ρ1 vs = true) (hs : ∀ d ∈ ds, ∀ R : SV → Rho → Prop, R (g d) ρ1 → fg d (wipeR ρ1 vs) fun ρ2 => fe ρ2 fun r ρ4 => R r (unwipe ρ4 ρ1 vs))
    (hd : Q (.own (ds.map g)) ρ1) : lcB fg fYes fe vs ds Q ρ1 := by
  refine lc_inv (fun i acc ρ => ρ = ρ1 ∧ acc = (ds.take i).map g) ⟨rfl, rfl⟩ ?_ ?_
  · rintro i d acc ρ hi ⟨rfl, rfl⟩
    refine ⟨hp, ?_⟩
    have hlt := (List.getElem?_eq_some_iff.mp hi).1
    have := hs d (List.mem_of_getElem? hi) (fun r ρ' => ((ds.take i).map g).length < sizeLine ∧ ρ' = ρ ∧ (ds.take i).map g ++ [r] = (ds.take (i + 1)).map g) ⟨by rw [List.length_map, List.length_take]; exact Nat.lt_of_le_of_lt (Nat.min_le_left _ _) (Nat.lt_of_lt_of_le hlt hl), rfl, by rw [List.take_add_one, hi]; simp⟩
    simpa [fYes] using this
  · rintro acc ρ ⟨rfl, rfl⟩
    rw [List.take_length]
    exact hd
end
/-! sizes -/
def Sm (k : Nat) (n : Int) : Prop := n.natAbs < 2 ^ k
theorem Sm.mono {k l : Nat} {n : Int} (h : Sm k n) (le : k ≤ l) : Sm l n := Nat.lt_of_lt_of_le h (Nat.pow_le_pow_right (by decide) le)
theorem Sm.neg {k : Nat} {n : Int} (h : Sm k n) : Sm k (-n) := by unfold Sm at *; rwa [Int.natAbs_neg]
theorem Sm.mul {k l : Nat} {m n : Int} (h : Sm k m) (h' : Sm l n) : Sm (k + l) (m * n) := by
  unfold Sm at *
  rw [Int.natAbs_mul, Nat.pow_add]
  exact Nat.mul_lt_mul'' h h'
theorem Sm.add {k l : Nat} {m n : Int} (h : Sm k m) (h' : Sm l n) : Sm (max k l + 1) (m + n) := by
  have a := h.mono (Nat.le_max_left k l)
  have b := h'.mono (Nat.le_max_right k l)
  unfold Sm at *
  rw [Nat.pow_succ]
  omega
theorem Sm.sub {k l : Nat} {m n : Int} (h : Sm k m) (h' : Sm l n) : Sm (max k l + 1) (m - n) := by
  rw [Int.sub_eq_add_neg]; exact h.add h'.neg
theorem Sm.log {k : Nat} {n : Int} (h : Sm k n) (h0 : 0 < k) : n.natAbs.log2 < k := by
  by_cases z : n.natAbs = 0
  · rw [z]; simpa using h0
  · exact (Nat.log2_lt z).mpr h
theorem Sm.le {k : Nat} {m n : Int} (h : Sm k m) (le : n.natAbs ≤ m.natAbs) : Sm k n := Nat.lt_of_le_of_lt le h
theorem Sm.pylong {k : Nat} {n : Int} (i : Int) (h : Sm k n) (h0 : k ≤ 9000 := by decide) : Builtin.divisionGoesByPylong i n = false := by
  have := (h.mono h0).log (by decide)
  exact PyProof.noPylong_of_log2 this
theorem Sm.bits {k : Nat} {n : Int} (h : Sm k n) : Builtin.Int.intBits n ≤ k := by
  unfold Builtin.Int.intBits
  by_cases z : n = 0
  · simp [z]
  · have : n.natAbs ≠ 0 := by omega
    have := (Nat.log2_lt this).mpr h
    simp [z]
    omega
theorem Sm.of_bits {k : Nat} {n : Int} (h : Builtin.Int.intBits n ≤ k) : Sm k n := by
  unfold Builtin.Int.intBits at h
  unfold Sm
  by_cases z : n = 0
  · simp [z]; exact Nat.pow_pos (by decide)
  · have z' : n.natAbs ≠ 0 := by omega
    simp [z] at h
    exact (Nat.log2_lt z').mp (by omega)
theorem Sm.ok {k l : Nat} {m n : Int} (h : Sm k m) (h' : Sm l n) (e : k + l ≤ 134217728 := by decide) : IntMulOk m n := PyProof.Rows.mulOk_of_bits h.bits h'.bits e
/-! fractions -/
def rT (q : Rat) : DD := .tup [.int q.num, .int (q.den : Int)]
theorem gcd_pos {a b : Int} (h : b ≠ 0) : 0 < (Int.gcd a b : Int) := by
  have : Int.gcd a b ≠ 0 := fun z => h (Int.gcd_eq_zero_iff.mp z).2
  omega
theorem rat_num {a b : Int} (h : b ≠ 0) : a.fdiv (if b < 0 then -(Int.gcd a b : Int) else Int.gcd a b) = (Rat.divInt a b).num := by
  rw [Rat.num_divInt, Int.gcd_comm b a]
  have g := gcd_pos (a := a) h
  obtain ⟨c, hc⟩ := Int.gcd_dvd_left a b
  generalize (Int.gcd a b : Int) = d at *
  subst hc
  split
  · rename_i l
    rw [Int.sign_eq_neg_one_of_neg l]
    have e1 : d * c = (-c) * (-d) := by grind
    have e2 : -1 * (d * c) = (-c) * d := by grind
    rw [e2, Int.mul_ediv_cancel _ (by omega), e1, Int.mul_fdiv_cancel _ (by omega)]
  · rename_i l
    rw [Int.sign_eq_one_of_pos (by omega)]
    rw [Int.one_mul, Int.mul_comm d c, Int.mul_ediv_cancel _ (by omega), Int.mul_fdiv_cancel _ (by omega)]
theorem rat_den {a b : Int} (h : b ≠ 0) : b.fdiv (if b < 0 then -(Int.gcd a b : Int) else Int.gcd a b) = ((Rat.divInt a b).den : Int) := by
  have g := gcd_pos (a := a) h
  rw [Rat.den_divInt, if_neg h, Int.gcd_comm b a]
  obtain ⟨c, hc⟩ := Int.gcd_dvd_right a b
  have e : ((b.natAbs / Int.gcd a b : Nat) : Int) = (b.natAbs : Int) / (Int.gcd a b : Int) := by simp
  rw [e]
  generalize (Int.gcd a b : Int) = d at *
  subst hc
  split
  · rename_i l
    have e1 : d * c = (-c) * (-d) := by grind
    have e2 : ((d * c).natAbs : Int) = (-c) * d := by
      have : d * c < 0 := l
      have e3 : (-c) * d = -(d * c) := by grind
      rw [e3]; omega
    rw [e2, Int.mul_ediv_cancel _ (by omega), e1, Int.mul_fdiv_cancel _ (by omega)]
  · rename_i l
    have e2 : ((d * c).natAbs : Int) = c * d := by rw [Int.mul_comm c d]; omega
    rw [e2, Int.mul_ediv_cancel _ (by omega), Int.mul_comm d c, Int.mul_fdiv_cancel _ (by omega)]
theorem gcd_small {k : Nat} {a b : Int} (h : b ≠ 0) (hs : Sm k b) : Sm k (Int.gcd a b : Int) := by
  unfold Sm at *
  simp only [Int.natAbs_natCast]
  exact Nat.lt_of_le_of_lt (Nat.le_of_dvd (by omega) (Nat.gcd_dvd_right a.natAbs b.natAbs)) hs
theorem rat_cop (q : Rat) : Int.gcd q.num q.den = 1 := q.reduced
/-- sizes of a fraction -/
structure Qb (k : Nat) (q : Rat) : Prop where
  n : Sm k q.num
  d : Sm k (q.den : Int)
theorem Qb.mono {k l : Nat} {q : Rat} (h : Qb k q) (le : k ≤ l) : Qb l q := ⟨h.n.mono le, h.d.mono le⟩
theorem Qb.of {k : Nat} {a b : Int} (ha : Sm k a) (hb : Sm k b) (h0 : b ≠ 0) : Qb k (Rat.divInt a b) := by
  have g := gcd_pos (a := a) h0
  refine ⟨ha.le ?_, hb.le ?_⟩
  · rw [Rat.num_divInt]
    refine Nat.le_trans (Int.natAbs_ediv_le_natAbs _ _) ?_
    rw [Int.natAbs_mul]
    have : b.sign.natAbs ≤ 1 := by rw [Int.natAbs_sign]; split <;> omega
    calc b.sign.natAbs * a.natAbs ≤ 1 * a.natAbs := Nat.mul_le_mul_right _ this
      _ = a.natAbs := Nat.one_mul _
  · rw [Rat.den_divInt, if_neg h0]
    simp only [Int.natAbs_natCast]
    exact Nat.div_le_self _ _
theorem rden (x : Rat) : (x.den : Int) ≠ 0 := by have := x.den_pos; omega
theorem rat_add (x y : Rat) : Rat.divInt (x.num * y.den + y.num * x.den) (x.den * y.den) = x + y := by
  have h := Rat.divInt_add_divInt x.num y.num (rden x) (rden y)
  rw [Rat.num_divInt_den, Rat.num_divInt_den] at h
  exact h.symm
theorem rat_mul (x y : Rat) : Rat.divInt (x.num * y.num) (x.den * y.den) = x * y := by
  have h := Rat.divInt_mul_divInt x.num y.num (d₁ := x.den) (d₂ := y.den)
  rw [Rat.num_divInt_den, Rat.num_divInt_den] at h
  exact h.symm
theorem Qb.mul {k l : Nat} {x y : Rat} (h : Qb k x) (h' : Qb l y) : Qb (k + l) (x * y) := by
  rw [← rat_mul]
  exact Qb.of (h.n.mul h'.n) (h.d.mul h'.d) (Int.mul_ne_zero (rden x) (rden y))
theorem Qb.add {k l : Nat} {x y : Rat} (h : Qb k x) (h' : Qb l y) : Qb (k + l + 1) (x + y) := by
  rw [← rat_add]
  refine Qb.of ?_ ((h.d.mul h'.d).mono (by omega)) (Int.mul_ne_zero (rden x) (rden y))
  exact ((h.n.mul h'.d).add (h'.n.mul h.d)).mono (by omega)
theorem Qb.int {k : Nat} {i : Int} (h : Sm k i) (hk : 1 ≤ k := by decide) : Qb k (i : Rat) := by
  refine ⟨by simpa using h, ?_⟩
  have : Sm 1 (1 : Int) := by unfold Sm; decide
  simpa using this.mono hk
/-! polynomials -/
def evalR : List Int → Rat → Rat
  | [], _ => 0
  | c :: l, x => (c : Rat) + x * evalR l x
def dI (l : List Int) : DD := .lst (l.map .int)
def oI (l : List Int) : SV := .own (l.map fun i => .dat (.int i))
theorem oI_data (l : List Int) : (oI l).data = dI l := by simp [oI, dI, SV.data, SV.datas_eq]
/-- zeros off the end -/
def trim : List Int → List Int
  | [] => []
  | c :: l => match trim l with
    | [] => if c = 0 then [] else [c]
    | t => c :: t
def addP : List Int → List Int → List Int
  | [], m => m
  | l, [] => l
  | a :: l, b :: m => (a + b) :: addP l m
theorem repT_int {c k : Int} : repT [DD.int c] k = (List.replicate k.toNat c).map DD.int := by simp [repT]
theorem zipD_ints {l m : List Int} : zipD (l.map .int) (m.map .int) = (l.zip m).map fun p => DD.tup [.int p.1, .int p.2] := by
  unfold zipD
  rw [List.zip_map, List.map_map]
  rfl
theorem maxI {a b : Nat} : (if a < b then (b : Int) else (a : Int)) = ((max a b : Nat) : Int) := by split <;> omega
theorem pad_int {l : List Int} {k : Nat} {c : Int} : l.map DD.int ++ List.replicate k (DD.int c) = (l ++ List.replicate k c).map DD.int := by simp
theorem zip_zl : ∀ m : List Int, List.zipWith (· + ·) (List.replicate m.length 0) m = m
  | [] => rfl
  | b :: m => by
    have ih := zip_zl m
    simp only [List.length_cons, List.replicate_succ, List.zipWith_cons_cons, Int.zero_add]
    rw [ih]
theorem zip_zr : ∀ m : List Int, List.zipWith (· + ·) m (List.replicate m.length 0) = m
  | [] => rfl
  | b :: m => by
    have ih := zip_zr m
    simp only [List.length_cons, List.replicate_succ, List.zipWith_cons_cons, Int.add_zero]
    rw [ih]
theorem zip_pad : ∀ (l m : List Int), List.zipWith (· + ·) (l ++ List.replicate (max l.length m.length - l.length) 0) (m ++ List.replicate (max l.length m.length - m.length) 0) = addP l m
  | [], [] => by simp [addP]
  | [], b :: m => by
    have := zip_zl (b :: m)
    simpa [addP] using this
  | a :: l, [] => by
    have := zip_zr (a :: l)
    simpa [addP] using this
  | a :: l, b :: m => by
    have ih := zip_pad l m
    have e1 : max (a :: l).length (b :: m).length - (a :: l).length = max l.length m.length - l.length := by simp
    have e2 : max (a :: l).length (b :: m).length - (b :: m).length = max l.length m.length - m.length := by simp
    rw [e1, e2, List.cons_append, List.cons_append, List.zipWith_cons_cons, ih, addP]
theorem addP_len : ∀ (l m : List Int), (addP l m).length = max l.length m.length
  | [], m => by simp [addP]
  | a :: l, [] => by simp [addP]
  | a :: l, b :: m => by simp [addP, addP_len l m]
theorem trim_snoc0 : ∀ l : List Int, trim (l ++ [0]) = trim l
  | [] => rfl
  | c :: l => by simp only [List.cons_append, trim, trim_snoc0 l]
theorem trim_eq : ∀ l : List Int, l.getLast? ≠ some 0 → trim l = l
  | [], _ => rfl
  | [c], h => by
    simp at h
    simp [trim, h]
  | c :: b :: l, h => by
    have ih := trim_eq (b :: l) (by simpa [List.getLast?_cons_cons] using h)
    rw [trim, ih]
theorem trim_last : ∀ l : List Int, (trim l).getLast? ≠ some 0
  | [] => by simp [trim]
  | c :: l => by
    have ih := trim_last l
    rw [trim]
    split
    · split <;> simp [*]
    · rename_i t h
      cases e : trim l with
      | nil => exact absurd e h
      | cons x t => rw [e] at ih; rw [List.getLast?_cons_cons]; exact ih
end DL

namespace DL
open PySem PySem.Spec PyProof.Rows L2
/-! ### calls with names -/
@[simp] def gP {α : Type} (n m : Nat) (ix : List Nat) (us ws : List α) : List α := if us.length = n ∧ ws.length = m then ix.filterMap (fun i => (us ++ ws)[i]?) else []
def DAd (K : PySem.W.Frag) (io : List Nat) (ta : TA) (fd : FDs) : Prop := ∀ (B : Bs) G H σ ρ fp (Qd : List DD → Rho → Prop) (Q : List V → Hp → Prop), B.io = io → Rp K B G H σ ρ fp → fd ρ Qd →
  (∀ ds ρ' vs G' H' fp', Nxt K B σ G H fp G' H' ρ' fp' → RqA K G' vs ds → Qd ds ρ' → Q vs H') → ta σ H Q
def PDpa (X : Cx) (io : List Nat) (es : List Expr) (fd : FDs) : Prop := ∃ ta, PA X es ta ∧ DAd X.K io ta fd
def PDkw (X : Cx) (io : List Nat) (kws : List Keyword) (fd : FDs) : Prop := ∃ ta, PK X kws ta ∧ DAd X.K io ta fd
@[simp] def kNil : FDs := fun ρ Q => Q [] ρ
@[simp] def kCons (fv : FV) (fd : FDs) : FDs := fun ρ Q => fv ρ fun d ρ1 => fd ρ1 fun ds ρ2 => Q (d :: ds) ρ2
section
variable {X : Cx} {io : List Nat} {e : Expr} {es : List Expr} {fd : FDs} {fv : FV} {kws : List Keyword} {nm : Option Str} {kpos : Pos}
theorem da_nil {K : PySem.W.Frag} : DAd K io tNil kNil := fun B G H σ ρ fp Qd Q hB R hf k => k [] ρ [] G H fp (Nxt.refl R) .nil hf
theorem da_cons {K : PySem.W.Frag} {te : TE} {ta : TA} (a2 : DV K io te fv) (b2 : DAd K io ta fd) : DAd K io (tCons te ta) (kCons fv fd) := fun B G H σ ρ fp Qd Q hB R hf k => by
  refine a2 B G H σ ρ fp _ _ hB R hf fun d ρ1 v1 G1 H1 fp1 n1 r1 hf => ?_
  refine b2 B G1 H1 σ ρ1 fp1 _ _ hB n1.rp hf fun ds ρ2 vs G2 H2 fp2 n2 rs q => ?_
  exact k _ ρ2 _ G2 H2 fp2 (n1.trans n2) (.cons (r1.mono n2.st.ex) rs) q
theorem p_nil : PDpa X io [] kNil := ⟨_, pa_nil, da_nil⟩
theorem p_val (ha : PDv X io e fv) (hr : PDpa X io es fd) (hs : starEach (e :: es) X.env = (false, eval e X.env) :: starEach es X.env := by rfl) : PDpa X io (e :: es) (kCons fv fd) := by
  obtain ⟨_, a1, a2⟩ := ha
  obtain ⟨_, b1, b2⟩ := hr
  exact ⟨_, pa_cons a1 b1 hs, da_cons a2 b2⟩
theorem k_nil : PDkw X io [] kNil := ⟨_, pk_nil, da_nil⟩
theorem k_val (ha : PDv X io e fv) (hr : PDkw X io kws fd) : PDkw X io (⟨nm, e, kpos⟩ :: kws) (kCons fv fd) := by
  obtain ⟨_, a1, a2⟩ := ha
  obtain ⟨_, b1, b2⟩ := hr
  exact ⟨_, pk_cons a1 b1, da_cons a2 b2⟩
theorem avr_dat {K : PySem.W.Frag} {G H : Hp} {σ : L2.St} : ∀ {vs : List V} {ds : List DD}, RqA K G vs ds → AVR K G H σ vs (ds.map fun d => AV.val (.dat d)) []
  | _, _, .nil => .nil
  | _, _, .cons a b => by
    have := AVR.val (f1 := []) (.dat a) (avr_dat (H := H) (σ := σ) b) (fun _ z => nomatch z)
    simpa using this
theorem resA_dat (ρ : Rho) : ∀ ds : List DD, resA ρ (ds.map fun d => AV.val (.dat d)) = some (ds.map SV.dat)
  | [] => rfl
  | d :: r => by simp [resA_dat ρ r]
theorem refs_dat : ∀ ds : List DD, refs (ds.map fun d => AV.val (.dat d)) = []
  | [] => rfl
  | d :: r => by simp [refs_dat r]
theorem wb_dat (ρ : Rho) : ∀ (ds : List DD) (ts : List SV), wb ρ (ds.map fun d => AV.val (.dat d)) ts = ρ
  | [], ts => by cases ts <;> rfl
  | d :: r, [] => rfl
  | d :: r, t :: ts => by simp [wb_dat ρ r ts]
end
theorem RqA.pick {K : PySem.W.Frag} {G : Hp} {vs : List V} {ds : List DD} (h : RqA K G vs ds) : ∀ ix : List Nat, RqA K G (ix.filterMap fun i => vs[i]?) (ix.filterMap fun i => ds[i]?)
  | [] => .nil
  | i :: ix => by
    have ih := RqA.pick h ix
    by_cases hi : i < ds.length
    · obtain ⟨u, e1, e2⟩ := h.get (List.getElem?_eq_getElem hi)
      rw [List.filterMap_cons_some e1, List.filterMap_cons_some (List.getElem?_eq_getElem hi)]
      exact .cons e2 ih
    · have e1 : ds[i]? = none := List.getElem?_eq_none (by omega)
      have e2 : vs[i]? = none := List.getElem?_eq_none (by rw [h.length]; omega)
      rw [List.filterMap_cons_none e1, List.filterMap_cons_none e2]
      exact ih
theorem RqA.gP {K : PySem.W.Frag} {G : Hp} {vs zs : List V} {ds es : List DD} {n m : Nat} {ix : List Nat} (h1 : RqA K G vs ds) (h2 : RqA K G zs es) : RqA K G (gP n m ix vs zs) (gP n m ix ds es) := by
  unfold DL.gP
  rw [h1.length, h2.length]
  split
  · exact (h1.append h2).pick ix
  · exact .nil
theorem Vals.pick {vs : List V} {us : List Value} (h : Vals vs us) : ∀ ix : List Nat, Vals (ix.filterMap fun i => vs[i]?) (ix.filterMap fun i => us[i]?)
  | [] => .nil
  | i :: ix => by
    have ih := Vals.pick h ix
    by_cases hi : i < vs.length
    · obtain ⟨u, e1, e2⟩ := h.get (List.getElem?_eq_getElem hi)
      rw [List.filterMap_cons_some e1, List.filterMap_cons_some (List.getElem?_eq_getElem hi)]
      exact .cons e2 ih
    · have e1 : vs[i]? = none := List.getElem?_eq_none (by omega)
      have e2 : us[i]? = none := List.getElem?_eq_none (by rw [← h.length]; omega)
      rw [List.filterMap_cons_none e1, List.filterMap_cons_none e2]
      exact ih
theorem Vals.gP {vs zs : List V} {us ws : List Value} {n m : Nat} {ix : List Nat} (h1 : Vals vs us) (h2 : Vals zs ws) : Vals (gP n m ix vs zs) (gP n m ix us ws) := by
  unfold DL.gP
  rw [h1.length, h2.length]
  split
  · exact Vals.pick (h1.append h2) ix
  · exact .nil
def HsK (P : Program) (w : World) (K : PySem.W.Frag) (mg : Str → Option Value) (base : Heap) (x : Str) (ps : List Str) (k : Nat) (F : Ctr) (ks : List Str) (n : Nat) (ix : List Nat) : Prop :=
  ∃ f fd, mg x = some (.ref f) ∧ PySem.W.keepIn K (.ref f) = true ∧ KBinds K fd ps ks (gP n ks.length ix) (gP n ks.length ix) ∧ FnG P w K mg base CX0 k f fd ps (spD K F)
@[simp] def fCallK (F : Ctr) (n m : Nat) (ix : List Nat) (fa fk : FDs) : FE := fun ρ Q => fa ρ fun ds ρ1 => fk ρ1 fun es ρ2 => F ((gP n m ix ds es).map .dat) fun r _ => Q r ρ2
theorem de_callk {K : PySem.W.Frag} {io : List Nat} {F : Ctr} {fa fk : FDs} {ta tk : TA} {n m : Nat} {ix : List Nat} {E : XK} (h1 : DAd K io ta fa) (h2 : DAd K io tk fk) : DE K io (tCallK (spD K F) (gP n m ix) E ta tk) (fCallK F n m ix fa fk) := by
  intro B G H σ ρ fp Qd Q hB R hf k
  refine h1 B G H σ ρ fp _ _ hB R hf fun ds ρ1 vs G1 H1 fp1 n1 r1 hf => ?_
  refine h2 B G1 H1 σ ρ1 fp1 _ _ hB n1.rp hf fun es ρ2 zs G2 H2 fp2 n2 r2 hF => ?_
  have rq : RqA K G2 (gP n m ix vs zs) (gP n m ix ds es) := (r1.mono n2.st.ex).gP r2
  have n12 := n1.trans n2
  obtain ⟨g, cg, hg, l1, l2, hr⟩ := args_co n2.rp.co (avr_dat (H := H2) (σ := σ) rq) (fun _ z => nomatch z) (by rw [refs_dat]; exact List.nodup_nil) (resA_dat ρ2 _)
  refine ⟨G2, _, g, _, cg, hF, fun r as' v G' H' g' fr' c' st inn ot d1 d2 q => ?_⟩
  have hl : as'.length = ((gP n m ix ds es).map SV.dat).length := by
    have e1 := c'.len
    have e2 := cg.len
    simp at e1 e2 ⊢
    omega
  obtain ⟨fp3, R3, st3, in3, cl⟩ := back_co (fr := []) n2.rp (fun _ z => nomatch z) (fun _ z => nomatch z) (by rw [refs_dat]; exact List.nodup_nil) (resA_dat ρ2 _) hg l2 hr c' st inn hl
  rw [wb_dat] at R3
  have ng : ∀ a, ¬ In g a := fun a ⟨k, m⟩ => by
    rcases hg k a m with ⟨m, _⟩ | ⟨i, e, _⟩
    · cases m
    · simp [List.getElem?_map] at e
  have old : ∀ a, H2 a = none → H a = none ∨ In fp a := fun a z => by
    by_cases q : In fp a
    · exact .inr q
    · exact .inl (n12.st.fresh q z)
  refine k r _ v G' H' fp3 fr' ⟨R3, n12.st.trans st3 fun a z => z.elim (n12.inn a) (fun z => nomatch z), fun a z => ?_⟩ ot (fun a m z => ?_) (fun a m => ?_) q
  · rcases in3 a z with z | z | z
    · exact n12.inn a z
    · exact (old a z).symm
    · cases z
  · rcases cl a z with z | ⟨z, _⟩
    · exact d1 a m z
    · rcases d2 a m with y | y
      · obtain ⟨⟨o, e⟩, _⟩ := n2.rp.co.here z
        rw [y] at e; cases e
      · exact ng a y
  · exact (d2 a m).elim (old a) fun z => (ng a z).elim
section
variable {X : Cx} {CX : CXT} {io : List Nat} {x : Str} {ps ks : List Str} {k n : Nat} {ix : List Nat} {F : Ctr} {e : Expr} {es : List Expr} {fa fk : FDs} {p pos : Pos} {kws : List Keyword} {f : Addr} {fd : FuncData} {sp : Sp} {E : XK} {t tk : TA} {g : List Value → List Value → List Value} {gV : List V → List V → List V}
theorem pe_callGk (F : FnG X.prog X.w X.K X.mg X.base CX k f fd ps sp) (hr : RoomG k X.A) (hg : Gl X x) (hm : X.mg x = some (.ref f)) (hk : PySem.W.keepIn X.K (.ref f) = true) (hb : KBinds X.K fd ps ks g gV) (hx : Passes CX X E)
    (ha : PA X (e :: es) t) (hkw : PK X kws tk) (hall : (backToKw pos (keywordEach kws X.env)).all (·.1.isSome) = true) (hks : (backToKw pos (keywordEach kws X.env)).filterMap (·.1) = ks)
    (hdb : (x == ("__debug__" : Str)) = false) (he : starEach (e :: es) X.env = (false, eval e X.env) :: starEach es X.env)
    (hpl : ((backTo pos (starEach (e :: es) X.env)).any (·.1) || (backToKw pos (keywordEach kws X.env)).any (·.1.isNone)) = false) : PE X (.Call (.Name x p) (e :: es) kws pos) (tCallK sp gV E t tk) := by
  refine ⟨fun pins s σ H Q I h => wpAny_Call_Name_kw (ld_glob I hg hm ?_ hdb)⟩
  refine PySem.W.callWith_KW (h₀ := X.base) I.ok.mod.kin hk hall (thn (ha.run pos pins s σ H _ I h) ?_) hpl he
  rintro us s1 ⟨vs, H1, I1, r, q⟩
  refine thn (hkw.run pos pins s1 σ H1 _ I1 q) ?_
  rintro ws s2 ⟨zs, H2, I2, rz, q2⟩
  refine ⟨I2.kIn, ?_⟩
  rw [hks]
  exact run_fnkG F hr hb hx I2 r rz q2
theorem pe_callGk0 (F : FnG X.prog X.w X.K X.mg X.base CX k f fd ps sp) (hr : RoomG k X.A) (hg : Gl X x) (hm : X.mg x = some (.ref f)) (hk : PySem.W.keepIn X.K (.ref f) = true) (hb : KBinds X.K fd ps ks g gV) (hx : Passes CX X E)
    (hkw : PK X kws tk) (hall : (backToKw pos (keywordEach kws X.env)).all (·.1.isSome) = true) (hks : (backToKw pos (keywordEach kws X.env)).filterMap (·.1) = ks)
    (hdb : (x == ("__debug__" : Str)) = false) (hpl : ((backTo pos (starEach [] X.env)).any (·.1) || (backToKw pos (keywordEach kws X.env)).any (·.1.isNone)) = false) : PE X (.Call (.Name x p) [] kws pos) (tCallK sp gV E tNil tk) := by
  refine ⟨fun pins s σ H Q I h => wpAny_Call_Name_kw (ld_glob I hg hm ?_ hdb)⟩
  refine PySem.W.callWith_KW0 (h₀ := X.base) I.ok.mod.kin hk hall (thn (hkw.run pos pins s σ H _ I h) ?_) hpl
  rintro ws s2 ⟨zs, H2, I2, rz, q2⟩
  refine ⟨I2.kIn, ?_⟩
  rw [hks]
  exact run_fnkG (us := []) F hr hb hx I2 .nil rz q2
theorem e_callk (h : HsK X.prog X.w X.K X.mg X.base x ps k F ks n ix) (hr : RoomG k X.A) (ha : PDpa X io (e :: es) fa) (hkw : PDkw X io kws fk) (hg : Gl X x := by rfl) (hdb : (x == ("__debug__" : Str)) = false := by decide)
    (hall : (backToKw pos (keywordEach kws X.env)).all (·.1.isSome) = true := by rfl) (hks : (backToKw pos (keywordEach kws X.env)).filterMap (·.1) = ks := by rfl) (he : starEach (e :: es) X.env = (false, eval e X.env) :: starEach es X.env := by rfl)
    (hpl : ((backTo pos (starEach (e :: es) X.env)).any (·.1) || (backToKw pos (keywordEach kws X.env)).any (·.1.isNone)) = false := by rfl) : PDe X io (.Call (.Name x p) (e :: es) kws pos) (fCallK F n ks.length ix fa fk) := by
  obtain ⟨f, fd, h1, h2, h3, h4⟩ := h
  obtain ⟨t, a1, a2⟩ := ha
  obtain ⟨tk, b1, b2⟩ := hkw
  exact ⟨_, pe_callGk h4 hr hg h1 h2 h3 pass0 a1 b1 hall hks hdb he hpl, de_callk a2 b2⟩
theorem e_callk0 (h : HsK X.prog X.w X.K X.mg X.base x ps k F ks n ix) (hr : RoomG k X.A) (hkw : PDkw X io kws fk) (hg : Gl X x := by rfl) (hdb : (x == ("__debug__" : Str)) = false := by decide)
    (hall : (backToKw pos (keywordEach kws X.env)).all (·.1.isSome) = true := by rfl) (hks : (backToKw pos (keywordEach kws X.env)).filterMap (·.1) = ks := by rfl)
    (hpl : ((backTo pos (starEach [] X.env)).any (·.1) || (backToKw pos (keywordEach kws X.env)).any (·.1.isNone)) = false := by rfl) : PDe X io (.Call (.Name x p) [] kws pos) (fCallK F n ks.length ix kNil fk) := by
  obtain ⟨f, fd, h1, h2, h3, h4⟩ := h
  obtain ⟨tk, b1, b2⟩ := hkw
  exact ⟨_, pe_callGk0 h4 hr hg h1 h2 h3 pass0 b1 hall hks hdb hpl, de_callk da_nil b2⟩
end
section
variable {P : Program} {w : World} {K : PySem.W.Frag} {mg : Str → Option Value} {base : Heap} {f : Addr} {fd : FuncData} {x qual : Str} {params : Arguments} {body : List Stmt} {scope : Scope} {ps ks : List Str} {k n : Nat} {ix : List Nat} {F : Ctr}
theorem hsK (G : FnG P w K mg base CX0 k f fd ps (spD K F)) (hm : mg x = some (.ref f)) (F0 : FunD K x qual params body scope [] [] f fd) (hn : ps ≠ [])
    (hb : ∀ (kV doc pm : Value) (an : Option Addr) (cdv ct : Value) (us ws : List Value), us.length = n → ws.length = ks.length → bindArgs (PySem.W.fnOf x qual params body scope .none kV doc pm an cdv ct) ⟨us, ks.zip ws⟩ = pure (ps.zip (gP n ks.length ix us ws))) : HsK P w K mg base x ps k F ks n ix := by
  refine ⟨f, fd, hm, F0.kp, ⟨fun s us ws hK hl => ?_, fun r1 r2 => Vals.gP r1 r2⟩, G⟩
  have hlen : us.length = n ∧ ws.length = ks.length := by
    by_cases q : us.length = n ∧ ws.length = ks.length
    · exact q
    · unfold DL.gP at hl
      rw [if_neg q] at hl
      exact absurd (List.length_eq_zero_iff.mp hl.symm) hn
  obtain ⟨oc, od, dV, kV, doc, pm, an, cdv, ct, osl, rfl, lk, hcd, hD, hK⟩ := F0.ex
  rcases hD with ⟨_, rfl⟩ | ⟨e, _⟩
  · exact PySem.BindsTo.of_eq (hb kV doc pm an cdv ct us ws hlen.1 hlen.2)
  · exact absurd rfl e
end
section
variable {X : Cx} {io ks : List Nat}
theorem de_dv {K : PySem.W.Frag} {te : TE} {fe : FE} (h2 : DE K io te fe) : DV K io te (eV fe) := fun B G H σ ρ fp Qd Q hB R hf k => h2 B G H σ ρ fp _ Q hB R hf fun r ρ' v G' H' fp' fr n ot t1 t2 q => by
  obtain ⟨n', rq⟩ := Nxt.sealed R n ot t1 t2
  exact k _ _ _ _ _ _ n' rq q
theorem dv_de {K : PySem.W.Frag} {te : TE} {fv : FV} (h2 : DV K io te fv) : DE K io te (vE fv) := fun B G H σ ρ fp Qd Q hB R hf k => h2 B G H σ ρ fp _ Q hB R hf fun d ρ' v G' H' fp' n rq q => k _ _ _ _ _ _ [] n (.dat rq) (fun _ z => nomatch z) (fun _ z => nomatch z) q
theorem s_lcS {i : Nat} {y : Str} {py spos pos : Pos} {elt tg iter : Expr} {ifs : List Expr} {scope : Scope} {own : List (Str × Nat)} {fi : FI} {fg : FG} {ft : FT} {fe : FE} (hc : X.calm = true) (hN : X.N.Nodup) (hi : PDi X io tg iter fi) (ok : blkC X.N X.env.scope scope own = true)
    (hg : ∀ (s : Shared) (H : Hp) (C : Addr) (cl : List (Str × Addr)) (fp : List Addr), PDg (X.blk s H scope (compEnvC scope cl C X.env) fp) io ks tg fg) (ht : ∀ (s : Shared) (H : Hp) (C : Addr) (cl : List (Str × Addr)) (fp : List Addr), PDts (X.blk s H scope (compEnvC scope cl C X.env) fp) io ifs ft)
    (he : ∀ (s : Shared) (H : Hp) (C : Addr) (cl : List (Str × Addr)) (fp : List Addr), PDe (X.blk s H scope (compEnvC scope cl C X.env) fp) io elt fe) (hy : X.N[i]? = some y := by rfl) (hyl : X.env.scope.names.lookup y = some .local := by rfl)
    (hsw : swapsWith (.ListComp elt [⟨tg, iter, ifs, 0⟩] scope pos) (some (.Name y py)) spos.line X.env = pure true := by exact sw_true rfl rfl rfl (by decide +kernel)) (hk : ∀ k ∈ ks, k ∈ own.map (·.2) := by decide) (hs : ∀ x, foldedSetIterable iter X.env x = pure x := by intro _; rfl) :
    PDs X io (.Assign [.Name y py] (.ListComp elt [⟨tg, iter, ifs, 0⟩] scope pos) spos) (fSet io i (vE (eV (fLc io fi fg ft fe (own.map (·.2)))))) := by
  obtain ⟨wi, i1, i2⟩ := hi
  exact ⟨_, ps_setLc hc hN hy hyl hsw i1 (blkOk_by ok) (fun s H C cl fp => (hg s H C cl fp).can) (fun s H C cl fp => (ht s H C cl fp).can) (fun s H C cl fp => (he s H C cl fp).can) hs, ds_set (dv_de (de_dv (de_lc i2 hk)))⟩
end
/-! a, b, c = x, y, z -/
theorem OTs.three {K : PySem.W.Frag} {G H : Hp} {vs : List V} {t u w : SV} {fr : List Addr} (h : OTs K G H vs [t, u, w] fr) : ∃ x y z f1 f2 f3, vs = [x, y, z] ∧ OT K G H x t f1 ∧ OT K G H y u f2 ∧ OT K G H z w f3 ∧ (∀ a ∈ f1, a ∉ f2) ∧ (∀ a ∈ f1, a ∉ f3) ∧ (∀ a ∈ f2, a ∉ f3) ∧ (∀ a ∈ f1, a ∈ fr) ∧ (∀ a ∈ f2, a ∈ fr) ∧ ∀ a ∈ f3, a ∈ fr := by
  cases h with
  | cons a b d =>
    obtain ⟨y, z, f2, f3, rfl, o2, o3, d23, i2, i3⟩ := b.two
    exact ⟨_, y, z, _, f2, f3, rfl, a, o2, o3, fun x m m' => d x m (i2 x m'), fun x m m' => d x m (i3 x m'), d23, fun x m => List.mem_append_left _ m, fun x m => List.mem_append_right _ (i2 x m), fun x m => List.mem_append_right _ (i3 x m)⟩
@[simp] def fPar3 (io : List Nat) (i j l : Nat) (fs : FSs) : FS := fun D ρ => fs ρ fun ts ρ1 => ∃ t u w, ts = [t, u, w] ∧ i ∉ io ∧ j ∉ io ∧ l ∉ io ∧ D.nx (((ρ1.set i (some t)).set j (some u)).set l (some w))
theorem out_put {ρ : Rho} {fp : Nat → List Addr} {fr f2 : List Addr} {i : Nat} (h : ∀ a ∈ f2, ¬ In fp a) (d : ∀ a ∈ fr, a ∉ f2) : ∀ a ∈ f2, ¬ In (fun j => if j = i then (if i < ρ.length then fr else []) else fp j) a := fun a m ⟨l, z⟩ => by
  by_cases e : l = i
  · simp only [if_pos e] at z
    by_cases hl : i < ρ.length
    · rw [if_pos hl] at z; exact d a z m
    · rw [if_neg hl] at z; cases z
  · simp only [if_neg e] at z
    exact h a m ⟨l, z⟩
theorem s_par3 {X : Cx} {io : List Nat} {i j l : Nat} {x y z : Str} {a b c : Expr} {fs : FSs} {px py pz pt pos : Pos} {kt k2 : Nat} {pt2 : Pos} (hc : X.calm = true) (hN : X.N.Nodup) (h : PDs' X io [a, b, c] fs) (hi : X.N[i]? = some x := by rfl) (hj : X.N[j]? = some y := by rfl) (hl : X.N[l]? = some z := by rfl) (hij : i ≠ j := by decide) (hil : i ≠ l := by decide) (hjl : j ≠ l := by decide)
    (hx : X.env.scope.names.lookup x = some .local := by rfl) (hy : X.env.scope.names.lookup y = some .local := by rfl) (hz : X.env.scope.names.lookup z = some .local := by rfl)
    (hw : swappedStores [.Tuple [.Name x px, .Name y py, .Name z pz] kt pt] (.Tuple [a, b, c] k2 pt2) X.env = pure (some [x, y, z]) := by rfl)
    (hs : swapsWithSole [.Tuple [.Name x px, .Name y py, .Name z pz] kt pt] (.Tuple [a, b, c] k2 pt2) pos.line X.env = pure false := by rfl) :
    PDs X io (.Assign [.Tuple [.Name x px, .Name y py, .Name z pz] kt pt] (.Tuple [a, b, c] k2 pt2) pos) (fPar3 io i j l fs) := by
  obtain ⟨_, a1, a2⟩ := h
  refine ⟨_, ps_par3 hc hN hi hj hl hij hil hjl hx hy hz a1 hw hs, fun B G H σ ρ fp Dd Dh hB R hf s => ?_⟩
  refine a2 B G H σ ρ fp _ _ hB R hf fun ts ρ1 vs G1 H1 fp1 fr n os t1 t2 ⟨t, u, w, et, hi', hj', hl', q⟩ => ?_
  subst et
  obtain ⟨v1, v2, v3, f1, f2, f3, ev, o1, o2, o3, d12, d13, d23, in1, in2, in3⟩ := os.three
  have hb := R.base t2
  have R1 := n.rp.put (i := i) (by rw [hB]; exact hi') o1 (fun a m => t1 a (in1 a m)) (fun a m => hb a (in1 a m))
  have n2 := out_put (ρ := ρ1) (i := i) (fun a m => t1 a (in2 a m)) d12
  have n3 := out_put (ρ := ρ1) (i := i) (fun a m => t1 a (in3 a m)) d13
  have R2 := R1.put (i := j) (by rw [hB]; exact hj') o2 n2 (fun a m => hb a (in2 a m))
  have R3 := R2.put (i := l) (by rw [hB]; exact hl') o3 (out_put n3 d23) (fun a m => hb a (in3 a m))
  exact ⟨v1, v2, v3, ev, s.nx _ _ _ _ _ R3 q⟩
/-! a list or a tuple is walked -/
@[simp] def itD : DD → Option (List DD)
  | .lst ds => some ds
  | .tup ds => some ds
  | .at_ _ (.lst ds) => some ds
  | _ => none
@[simp] def iLT (fv : FV) : FI := fun ρ Q => fv ρ fun d ρ1 => ∃ ds, itD d = some ds ∧ Q ds ρ1
def iEither (K : PySem.W.Frag) (te : TE) : TI := fun σ H R => te σ H fun x H1 => (∃ a, x = .ref a ∧ (∃ xs, SqL K H1 a xs) ∧ R (Itl K a) H1) ∨ ∃ a, x = .ref a ∧ (∃ xs, SqT K H1 a xs) ∧ R (Itt K a) H1
theorem pi_either {X : Cx} {tg e : Expr} {te : TE} (he : PE X e te) : PI X tg e (iEither X.K te) := ⟨fun pins s σ H R I h => thn (he.run pins s σ H _ I h) fun v s1 ⟨x, H1, J, rx, q⟩ => by
  have own : ∀ b ∈ [s1.heap.objs.size], FpOk X pins H1 b := fun b m => by
    cases (List.mem_singleton.mp m)
    exact J.fpOk (Nat.le_refl _) (J.hok.fresh (Nat.le_refl _))
  rcases q with ⟨a, rfl, ⟨xs, hx⟩, r⟩ | ⟨a, rfl, ⟨xs, hx⟩, r⟩
  · cases rx
    obtain ⟨its, _, p, _⟩ := J.list hx
    exact wpAny_pyIter_list p.isList ⟨_, [_], _, _, H1, rfl, J.kept (t' := s1.toks) (fun b o z => Heap.get?_push_of_some _ z), turn_list a _, ⟨_, Heap.get?_push_size _ rfl, rfl, rfl⟩, own, r⟩
  · cases rx
    obtain ⟨its, _, p, _⟩ := J.tuple hx
    exact wpAny_pyIter_tuple (show s1.heap.IsTuple a its.toArray from p) ⟨_, [_], _, _, H1, rfl, J.kept (t' := s1.toks) (fun b o z => Heap.get?_push_of_some _ z), turn_tuple a _, ⟨_, Heap.get?_push_size _ rfl, rfl, rfl⟩, own, r⟩⟩
theorem i_lt {X : Cx} {io : List Nat} {tg e : Expr} {fv : FV} (h : PDv X io e fv) : PDi X io tg e (iLT fv) := by
  obtain ⟨te, a1, a2⟩ := h
  refine ⟨_, pi_either a1, fun B G H σ ρ fp Qd Rr hB R hf k => ?_⟩
  refine a2 B G H σ ρ fp _ _ hB R hf fun d ρ1 v G1 H1 fp1 n r ⟨ds, ed, q⟩ => ?_
  have lst : ∀ {ds}, Rq X.K G1 v (.lst ds) → Qd ds ρ1 → ∃ a, v = .ref a ∧ (∃ xs, SqL X.K H1 a xs) ∧ Rr (Itl X.K a) H1 := fun {ds} r q => by
    obtain ⟨p, xs, ev, h, rs⟩ := r.lst_inv
    exact ⟨p, ev, ⟨xs, .inl (n.rp.co.sub.rd h)⟩, k _ _ _ _ _ _ n (dj_list h rs) q⟩
  cases d with
  | lst l => cases ed; exact .inl (lst r q)
  | tup l =>
    cases ed
    obtain ⟨p, xs, ev, h, rs⟩ := r.tup_inv
    exact .inr ⟨p, ev, ⟨xs, n.rp.co.sub.t h⟩, k _ _ _ _ _ _ n (dj_tup h rs) q⟩
  | at_ u l =>
    cases l with
    | lst l =>
      cases ed
      cases r with
      | at_ r => exact .inl (lst r q)
    | _ => cases ed
  | _ => cases ed
/-- a halt between two statements -/
theorem cut {f g : FS} {D : DEnds} {ρ : Rho} (M : Rho → Prop) (hM : ∀ ρ, M ρ → g D ρ) (h : ∀ g' : Rho → Prop, (∀ ρ, M ρ → g' ρ) → f { D with nx := g' } ρ) : fSeq f g D ρ := h (g D) hM
/-! == of strs, whatever their signs -/
@[simp] def oEqS : Op2 := fun d e P => ∃ x y, d = .str x ∧ e = .str y ∧ P (.bl (decide (x = y)))
@[simp] def oNeS : Op2 := fun d e P => ∃ x y, d = .str x ∧ e = .str y ∧ P (.bl (!decide (x = y)))
theorem sc_eqS {K : PySem.W.Frag} : ScR K rEq oEqS := fun H x y d e P Q hx hy h k => by
  obtain ⟨a, b, rfl, rfl, p⟩ := h
  cases hx.str_inv
  cases hy.str_inv
  refine ⟨rfl, ?_⟩
  have : decide (V.str a = V.str b) = decide (a = b) := by simp
  rw [this]
  exact k _ _ p (.bl _)
theorem sc_neS {K : PySem.W.Frag} : ScR K rNe oNeS := fun H x y d e P Q hx hy h k => by
  obtain ⟨a, b, rfl, rfl, p⟩ := h
  cases hx.str_inv
  cases hy.str_inv
  refine ⟨rfl, ?_⟩
  have : decide (V.str a = V.str b) = decide (a = b) := by simp
  rw [this]
  exact k _ _ p (.bl _)
section
variable {X : Cx} {io : List Nat} {a b : Expr} {pos : Pos} {fa fb : FO}
theorem p_eqS (ha : PDo X io a fa) (hb : PDo X io b fb) : PDv X io (.Compare a [.Eq] [b] pos) (fBin oEqS fa fb) := p_cmp L2.op_eq sc_eqS (nomark _) ha hb
theorem p_neS (ha : PDo X io a fa) (hb : PDo X io b fb) : PDv X io (.Compare a [.NotEq] [b] pos) (fBin oNeS fa fb) := p_cmp L2.op_ne sc_neS (nomark _) ha hb
theorem q_eqS (ha : PDo X io a fa) (hb : PDo X io b fb) : PDt X io (.Compare a [.Eq] [b] pos) (fTst (fBin oEqS fa fb)) := t_cmp L2.op_eq sc_eqS (nomark _) ha hb
theorem q_neS (ha : PDo X io a fa) (hb : PDo X io b fb) : PDt X io (.Compare a [.NotEq] [b] pos) (fTst (fBin oNeS fa fb)) := t_cmp L2.op_ne sc_neS (nomark _) ha hb
end
section
variable {X : Cx} {io : List Nat} {pos : Pos}
theorem c_list (hm : X.mg "list" = none) (hg : Gl X "list" := by rfl) : PDv X io (.Name "list" pos) (fC (.opq (.ty "list"))) := c_blt (v := .ty "list") (u := .type "list") hm (by decide +kernel) rfl hg
theorem c_tuple (hm : X.mg "tuple" = none) (hg : Gl X "tuple" := by rfl) : PDv X io (.Name "tuple" pos) (fC (.opq (.ty "tuple"))) := c_blt (v := .ty "tuple") (u := .type "tuple") hm (by decide +kernel) rfl hg
theorem c_strT (hm : X.mg "str" = none) (hg : Gl X "str" := by rfl) : PDv X io (.Name "str" pos) (fC (.opq (.ty "str"))) := c_blt (v := .ty "str") (u := .type "str") hm (by decide +kernel) rfl hg
end
end DL

namespace DL
open PySem PySem.Spec PyProof.Rows L2
/-! ### products -/
def bump (f : List Int) (k : Nat) (c : Int) : List Int := f.set k (f.getD k 0 + c)
def rowP (a : Int) : Nat → List Int → List Int → List Int
  | _, [], f => f
  | k, b :: m, f => rowP a (k + 1) m (bump f k (a * b))
def mulG (m : List Int) : Nat → List Int → List Int → List Int
  | _, [], f => f
  | k, a :: l, f => mulG m (k + 1) l (rowP a k m f)
def mulP (l m : List Int) : List Int := mulG m 0 l (List.replicate (l.length + m.length - 1) 0)
theorem bump_len (f : List Int) (k : Nat) (c : Int) : (bump f k c).length = f.length := by simp [bump]
theorem rowP_len (a : Int) : ∀ (k : Nat) (m f : List Int), (rowP a k m f).length = f.length
  | _, [], _ => rfl
  | k, b :: m, f => by rw [rowP, rowP_len, bump_len]
theorem mulG_len (m : List Int) : ∀ (k : Nat) (l f : List Int), (mulG m k l f).length = f.length
  | _, [], _ => rfl
  | k, a :: l, f => by rw [mulG, mulG_len, rowP_len]
theorem bump_get (f : List Int) (k j : Nat) (c : Int) (h : k < f.length) : (bump f k c).getD j 0 = f.getD j 0 + if j = k then c else 0 := by
  unfold bump
  simp only [List.getD_eq_getElem?_getD]
  by_cases e : j = k
  · subst e
    rw [List.getElem?_set_self h, if_pos rfl]
    simp
  · rw [List.getElem?_set_ne (Ne.symm e), if_neg e]
    omega
theorem rowP_hi (a : Int) : ∀ (k : Nat) (m f : List Int) (j : Nat), k + m.length ≤ f.length → k + m.length ≤ j → (rowP a k m f).getD j 0 = f.getD j 0
  | _, [], _, _, _, _ => rfl
  | k, b :: m, f, j, h, hj => by
    simp only [List.length_cons] at h hj
    rw [rowP, rowP_hi a (k + 1) m _ j (by rw [bump_len]; omega) (by omega), bump_get _ _ _ _ (by omega), if_neg (by omega)]
    omega
theorem rowP_top (a : Int) : ∀ (k : Nat) (m f : List Int) (h : m ≠ []), k + m.length ≤ f.length → (rowP a k m f).getD (k + m.length - 1) 0 = f.getD (k + m.length - 1) 0 + a * m.getLast h
  | _, [], _, h, _ => absurd rfl h
  | k, [b], f, _, hl => by
    simp only [List.length_cons, List.length_nil] at hl ⊢
    rw [rowP, rowP, bump_get _ _ _ _ (by omega), if_pos (by omega)]
    simp
  | k, b :: c :: m, f, hh, hl => by
    have ih := rowP_top a (k + 1) (c :: m) (bump f k (a * b)) (by simp) (by rw [bump_len]; simp only [List.length_cons] at hl ⊢; omega)
    simp only [List.length_cons] at ih hl ⊢
    have e : k + 1 + (m.length + 1) - 1 = k + (m.length + 1 + 1) - 1 := by omega
    rw [e] at ih
    rw [rowP, ih, bump_get _ _ _ _ (by omega), if_neg (by omega), show (b :: c :: m).getLast hh = (c :: m).getLast (by simp) from rfl]
    omega
theorem mulG_top (m : List Int) (hm : m ≠ []) : ∀ (k : Nat) (l f : List Int) (h : l ≠ []), k + l.length + m.length - 1 ≤ f.length → (mulG m k l f).getD (k + l.length + m.length - 2) 0 = f.getD (k + l.length + m.length - 2) 0 + l.getLast h * m.getLast hm
  | _, [], _, h, _ => absurd rfl h
  | k, [a], f, _, hl => by
    have hm1 : 0 < m.length := List.length_pos_iff.mpr hm
    simp only [List.length_cons, List.length_nil] at hl ⊢
    have := rowP_top a k m f hm (by omega)
    have e : k + (0 + 1) + m.length - 2 = k + m.length - 1 := by omega
    rw [mulG, mulG, e, this]
    simp
  | k, a :: b :: l, f, hh, hl => by
    have hm1 : 0 < m.length := List.length_pos_iff.mpr hm
    have ih := mulG_top m hm (k + 1) (b :: l) (rowP a k m f) (by simp) (by rw [rowP_len]; simp only [List.length_cons] at hl ⊢; omega)
    simp only [List.length_cons] at ih hl ⊢
    have e : k + 1 + (l.length + 1) + m.length - 2 = k + (l.length + 1 + 1) + m.length - 2 := by omega
    rw [e] at ih
    rw [mulG, ih, rowP_hi a k m f _ (by omega) (by omega), show (a :: b :: l).getLast hh = (b :: l).getLast (by simp) from rfl]
theorem mulP_len (l m : List Int) : (mulP l m).length = l.length + m.length - 1 := by unfold mulP; rw [mulG_len, List.length_replicate]
theorem mulP_last {l m : List Int} (hl : l ≠ []) (hm : m ≠ []) (zl : l.getLast? ≠ some 0) (zm : m.getLast? ≠ some 0) : (mulP l m).getLast? ≠ some 0 := by
  have h1 : 0 < l.length := List.length_pos_iff.mpr hl
  have h2 : 0 < m.length := List.length_pos_iff.mpr hm
  have t := mulG_top m hm 0 l (List.replicate (l.length + m.length - 1) 0) hl (by simp)
  rw [List.getLast?_eq_some_getLast hl] at zl
  rw [List.getLast?_eq_some_getLast hm] at zm
  have n1 : l.getLast hl ≠ 0 := fun e => zl (by rw [e])
  have n2 : m.getLast hm ≠ 0 := fun e => zm (by rw [e])
  intro e
  rw [List.getLast?_eq_getElem?, mulP_len] at e
  have e2 : (mulP l m).getD (0 + l.length + m.length - 2) 0 = 0 := by
    rw [List.getD_eq_getElem?_getD, show 0 + l.length + m.length - 2 = l.length + m.length - 1 - 1 by omega, e]
    rfl
  unfold mulP at e2
  rw [t] at e2
  have e3 : (List.replicate (l.length + m.length - 1) (0 : Int)).getD (0 + l.length + m.length - 2) 0 = 0 := by
    rw [List.getD_eq_getElem?_getD, List.getElem?_replicate]
    split <;> rfl
  rw [e3, Int.zero_add] at e2
  exact (Int.mul_ne_zero n1 n2) e2
theorem trim_zeros : ∀ n, trim (List.replicate n 0) = []
  | 0 => rfl
  | n + 1 => by rw [List.replicate_succ, trim, trim_zeros n]; simp
theorem rowP_nil (a : Int) (k : Nat) (f : List Int) : rowP a k [] f = f := rfl
theorem mulG_nil : ∀ (k : Nat) (l f : List Int), mulG [] k l f = f
  | _, [], _ => rfl
  | k, a :: l, f => by rw [mulG, rowP_nil, mulG_nil]
theorem mulP_trim {l m : List Int} (zl : l.getLast? ≠ some 0) (zm : m.getLast? ≠ some 0) : trim (mulP l m) = if l = [] ∨ m = [] then [] else mulP l m := by
  by_cases hl : l = []
  · subst hl
    rw [if_pos (.inl rfl)]
    exact trim_zeros _
  · by_cases hm : m = []
    · subst hm
      rw [if_pos (.inr rfl)]
      unfold mulP
      rw [mulG_nil]
      exact trim_zeros _
    · rw [if_neg (by simp [hl, hm])]
      exact trim_eq _ (mulP_last hl hm zl zm)
/-! sizes -/
def Bd (B : Nat) (l : List Int) : Prop := ∀ c ∈ l, c.natAbs ≤ B
theorem Bd.mono {B C : Nat} {l : List Int} (h : Bd B l) (le : B ≤ C) : Bd C l := fun c m => Nat.le_trans (h c m) le
theorem bump_each {B C : Nat} {f : List Int} {k : Nat} {c : Int} (hc : c.natAbs ≤ C) (j : Nat) (h : (f.getD j 0).natAbs ≤ B) : ((bump f k c).getD j 0).natAbs ≤ if j = k then B + C else B := by
  by_cases hk : k < f.length
  · rw [bump_get _ _ _ _ hk]
    split <;> omega
  · have : bump f k c = f := by unfold bump; rw [List.set_eq_of_length_le (by omega)]
    rw [this]
    split <;> omega
theorem rowP_each {C : Nat} (a : Int) : ∀ (k : Nat) (m f : List Int), (∀ b ∈ m, (a * b).natAbs ≤ C) → ∀ (j B : Nat), (f.getD j 0).natAbs ≤ B → ((rowP a k m f).getD j 0).natAbs ≤ if j < k then B else B + C
  | _, [], f, _, j, B, h => by rw [rowP]; split <;> omega
  | k, b :: m, f, hm, j, B, h => by
    rw [rowP]
    have h1 := bump_each (k := k) (hm b List.mem_cons_self) j h
    have h2 := rowP_each a (k + 1) m (bump f k (a * b)) (fun x z => hm x (List.mem_cons_of_mem _ z)) j _ h1
    by_cases e : j = k
    · subst e
      rw [if_pos rfl, if_pos (by omega)] at h2
      rw [if_neg (by omega)]; exact h2
    · rw [if_neg e] at h2
      by_cases l : j < k
      · rw [if_pos l]; rw [if_pos (by omega)] at h2; exact h2
      · rw [if_neg l]; rw [if_neg (by omega)] at h2; exact h2
theorem mulG_each {C : Nat} (m : List Int) : ∀ (k : Nat) (l f : List Int), (∀ a ∈ l, ∀ b ∈ m, (a * b).natAbs ≤ C) → ∀ (j B : Nat), (f.getD j 0).natAbs ≤ B → ((mulG m k l f).getD j 0).natAbs ≤ B + l.length * C
  | _, [], f, _, j, B, h => by rw [mulG]; omega
  | k, a :: l, f, hm, j, B, h => by
    rw [mulG]
    have h1 := rowP_each (C := C) a k m f (fun b z => hm a List.mem_cons_self b z) j B h
    have h1' : ((rowP a k m f).getD j 0).natAbs ≤ B + C := by split at h1 <;> omega
    have h2 := mulG_each m (k + 1) l _ (fun x z => hm x (List.mem_cons_of_mem _ z)) j _ h1'
    simp only [List.length_cons, Nat.succ_mul]
    omega
theorem getD_mem {l : List Int} {c : Int} (h : c ∈ l) : ∃ j : Nat, l.getD j 0 = c := by
  obtain ⟨j, hj, e⟩ := List.getElem_of_mem h
  exact ⟨j, by rw [List.getD_eq_getElem?_getD, List.getElem?_eq_getElem hj]; exact e⟩
theorem mulP_bd {B C : Nat} {l m : List Int} (hl : Bd B l) (hm : Bd C m) : Bd (l.length * (B * C)) (mulP l m) := by
  intro c hc
  obtain ⟨j, rfl⟩ := getD_mem hc
  have := mulG_each (C := B * C) m 0 l (List.replicate (l.length + m.length - 1) 0) (fun a ha b hb => by rw [Int.natAbs_mul]; exact Nat.mul_le_mul (hl a ha) (hm b hb)) j 0 (by
    rw [List.getD_eq_getElem?_getD, List.getElem?_replicate]
    split <;> simp)
  rw [Nat.zero_add] at this
  exact this
theorem addP_bd {B C : Nat} : ∀ {l m : List Int}, Bd B l → Bd C m → Bd (B + C) (addP l m)
  | [], m, _, h => fun c z => by rw [addP] at z; have := h c z; omega
  | a :: l, [], h, _ => fun c z => by rw [addP] at z; have := h c z; omega; simp
  | a :: l, b :: m, h1, h2 => fun c z => by
    rw [addP] at z
    rcases List.mem_cons.mp z with e | z
    · have := h1 a List.mem_cons_self
      have := h2 b List.mem_cons_self
      subst e
      omega
    · exact addP_bd (fun x y => h1 x (List.mem_cons_of_mem _ y)) (fun x y => h2 x (List.mem_cons_of_mem _ y)) c z
theorem trim_sub : ∀ {l : List Int} {c : Int}, c ∈ trim l → c ∈ l
  | [], c, h => by cases h
  | a :: l, c, h => by
    rw [trim] at h
    split at h
    · split at h
      · cases h
      · have : c = a := by simpa using h
        rw [this]; exact List.mem_cons_self
    · rename_i t _
      rcases List.mem_cons.mp h with e | h
      · rw [e]; exact List.mem_cons_self
      · exact List.mem_cons_of_mem _ (trim_sub h)
theorem trim_le : ∀ l : List Int, (trim l).length ≤ l.length
  | [] => Nat.le_refl _
  | a :: l => by
    have ih := trim_le l
    rw [trim]
    split
    · split <;> simp
    · simp only [List.length_cons]; omega
theorem trim_bd {B : Nat} {l : List Int} (h : Bd B l) : Bd B (trim l) := fun c m => h c (trim_sub m)
theorem Bd.sm {B k : Nat} {l : List Int} (h : Bd B l) (hk : B < 2 ^ k) : ∀ c ∈ l, Sm k c := fun c m => Nat.lt_of_le_of_lt (h c m) hk
/-! ### what repr shows -/
structure Rz (n D : Nat) (d : DD) : Prop where
  p : d.pure = true
  s : shw d.py = true
  l : (shD d).length ≤ n
  e : d.py.depth ≤ D
theorem Rz.ok {n D : Nat} {d : DD} (h : Rz n D d) (hn : n ≤ 2 ^ 24) (hD : D ≤ 60) : okR d := ⟨h.p, h.s, Nat.le_trans h.l hn, Nat.le_trans h.e hD⟩
theorem Rz.mono {n D n' D' : Nat} {d : DD} (h : Rz n D d) (hn : n ≤ n') (hD : D ≤ D') : Rz n' D' d := ⟨h.p, h.s, Nat.le_trans h.l hn, Nat.le_trans h.e hD⟩
theorem Rz.int {i : Int} (h : Sm 1920 i) : Rz 1921 0 (.int i) := by
  have hl := h.log (by decide)
  exact ⟨rfl, by simp [DD.py, shw]; omega, PyProof.Rows.int_text_len_1921 hl, Nat.le_refl _⟩
theorem Rz.big {i : Int} (h : Sm 12900 i) : Rz 12901 0 (.int i) := by
  have hl := h.log (by decide)
  exact ⟨rfl, by simp [DD.py, shw, hl], big_text hl, Nat.le_refl _⟩
theorem Rz.bl {b : Bool} : Rz 5 0 (.bl b) := ⟨rfl, by simp [DD.py, shw], by cases b <;> decide, Nat.le_refl _⟩
theorem Rz.non : Rz 4 0 .non := ⟨rfl, by simp [DD.py, shw], by decide, Nat.le_refl _⟩
theorem Rz.all {n D : Nat} : ∀ {ds : List DD}, (∀ d ∈ ds, Rz n D d) → DD.pures ds = true ∧ shws (DD.pys ds) = true ∧ ((PyData.shownAll (DD.pys ds)).map (·.length)).sum ≤ ds.length * n ∧ (PyData.shownAll (DD.pys ds)).length = ds.length ∧ PyData.depthAll (DD.pys ds) ≤ D
  | [], _ => by simp [DD.pures, DD.pys, shws, PyData.shownAll, PyData.depthAll]
  | d :: r, h => by
    have h1 := h d List.mem_cons_self
    obtain ⟨a, b, c, e, f⟩ := Rz.all fun x m => h x (List.mem_cons_of_mem _ m)
    have l1 : (PyData.shown d.py).length ≤ n := h1.l
    have e1 := h1.e
    refine ⟨by simp [DD.pures, h1.p, a], by simp [DD.pys, shws, h1.s, b], ?_, by simp [DD.pys, PyData.shownAll, e], by simp only [DD.pys, PyData.depthAll]; omega⟩
    simp only [DD.pys, PyData.shownAll, List.map_cons, List.sum_cons, List.length_cons, Nat.succ_mul]
    omega
theorem Rz.lst {n D : Nat} {ds : List DD} (h : ∀ d ∈ ds, Rz n D d) : Rz (ds.length * (n + 2) + 3) (D + 1) (.lst ds) := by
  obtain ⟨a, b, c, e, f⟩ := Rz.all h
  refine ⟨a, b, ?_, by show PyData.depthAll _ + 1 ≤ _; omega⟩
  have := listText_len_le (PyData.shownAll (DD.pys ds))
  rw [e] at this
  rw [Nat.mul_add]
  show (listText (PyData.shownAll (DD.pys ds))).length ≤ _
  omega
theorem Rz.tup {n D : Nat} {ds : List DD} (h : ∀ d ∈ ds, Rz n D d) : Rz (ds.length * (n + 2) + 3) (D + 1) (.tup ds) := by
  obtain ⟨a, b, c, e, f⟩ := Rz.all h
  refine ⟨a, b, ?_, by show PyData.depthAll _ + 1 ≤ _; omega⟩
  have := tupleText_len_le (PyData.shownAll (DD.pys ds))
  rw [e] at this
  rw [Nat.mul_add]
  show (tupleText (PyData.shownAll (DD.pys ds))).length ≤ _
  omega
theorem Rz.ints {l : List Int} (h : ∀ c ∈ l, Sm 1920 c) : Rz (l.length * 1923 + 3) 1 (dI l) := by
  have := Rz.lst (n := 1921) (D := 0) (ds := l.map .int) fun d m => by
    obtain ⟨c, hc, rfl⟩ := List.mem_map.mp m
    exact .int (h c hc)
  simpa [dI] using this
theorem Rz.rat {q : Rat} (h : Qb 1920 q) : Rz 3849 1 (rT q) := by
  have := Rz.tup (n := 1921) (D := 0) (ds := [.int q.num, .int q.den]) fun d m => by
    rcases List.mem_cons.mp m with rfl | m
    · exact .int h.n
    · have : d = .int q.den := by simpa using m
      subst this
      exact .int h.d
  simpa [rT] using this
end DL

namespace DL
open PySem PySem.Spec PyProof.Rows L2
/-! ### a polynomial at a fraction -/
def hA (p q : Int) : List Int → Int × Int
  | [] => (0, 1)
  | c :: l => ((hA p q l).1 * p + c * (hA p q l).2, (hA p q l).2 * q)
theorem hA_pow (p q : Int) : ∀ l, (hA p q l).2 = q ^ l.length
  | [] => by simp [hA]
  | c :: l => by rw [hA, hA_pow p q l, List.length_cons, Int.pow_succ]
theorem rat_dn (x : Rat) : (x.den : Rat) * x = (x.num : Rat) := by
  have h := Rat.num_divInt_den x
  rw [Rat.divInt_eq_div] at h
  have dn : ((x.den : Int) : Rat) ≠ 0 := by
    have := x.den_nz
    exact_mod_cast this
  have e3 : (((x.den : Int)) : Rat) = (x.den : Rat) := rfl
  rw [e3] at h dn
  have h2 : (x.num : Rat) = (x.num : Rat) / (x.den : Rat) * (x.den : Rat) := by grind
  rw [h, Rat.mul_comm] at h2
  exact h2.symm
theorem hA_eval (x : Rat) : ∀ l, ((hA x.num x.den l).1 : Rat) * (x.den : Rat) = ((hA x.num x.den l).2 : Rat) * evalR l x
  | [] => by simp [hA, evalR]
  | c :: l => by
    have ih := hA_eval x l
    have hx := rat_dn x
    simp only [hA, evalR]
    rw [Rat.intCast_add, Rat.intCast_mul, Rat.intCast_mul, Rat.intCast_mul]
    have e : ((x.den : Int) : Rat) = (x.den : Rat) := rfl
    rw [e]
    generalize ((hA x.num x.den l).1 : Rat) = f at *
    generalize ((hA x.num x.den l).2 : Rat) = w at *
    generalize evalR l x = v at *
    generalize (x.den : Rat) = d at *
    rw [← hx]
    grind
theorem hA_bd {A B : Nat} {x : Rat} (hx : Qb B x) : ∀ {l : List Int}, (∀ c ∈ l, Sm A c) → Sm ((A + B + 1) * l.length) (hA x.num x.den l).1 ∧ Sm (B * l.length + 1) (hA x.num x.den l).2
  | [], _ => by
    refine ⟨?_, ?_⟩
    · show Sm _ 0
      unfold Sm; simp
    · show Sm _ 1
      unfold Sm; simp
  | c :: l, h => by
    obtain ⟨h1, h2⟩ := hA_bd hx fun y m => h y (List.mem_cons_of_mem _ m)
    have hc := h c List.mem_cons_self
    refine ⟨?_, ?_⟩
    · refine ((h1.mul hx.n).add (hc.mul h2)).mono ?_
      simp only [List.length_cons, Nat.mul_succ]
      have : B * l.length ≤ (A + B + 1) * l.length := Nat.mul_le_mul_right _ (by omega)
      have b1 : 1 ≤ B := by
        cases B with
        | zero => have := hx.d; have := x.den_pos; unfold Sm at *; simp at *; omega
        | succ n => omega
      have : max ((A + B + 1) * l.length + B) (A + (B * l.length + 1)) ≤ (A + B + 1) * l.length + (A + B) := Nat.max_le.mpr ⟨by omega, by omega⟩
      omega
    · refine (h2.mul hx.d).mono ?_
      simp only [List.length_cons, Nat.mul_succ]
      omega
def partsP (l : List Int) (x : Rat) : Int × Int := if l = [] then (0, 1) else ((hA x.num x.den l).1, (hA x.num x.den l).2.fdiv x.den)
theorem partsP_den (l : List Int) (x : Rat) : (partsP l x).2 = (x.den : Int) ^ (l.length - 1) := by
  unfold partsP
  split
  · rename_i h; subst h; rfl
  · rename_i h
    obtain ⟨c, r, rfl⟩ := List.exists_cons_of_ne_nil h
    show (hA x.num x.den (c :: r)).2.fdiv x.den = _
    rw [hA_pow, List.length_cons, Int.pow_succ, Int.mul_fdiv_cancel _ (rden x)]
    rfl
theorem partsP_ne (l : List Int) (x : Rat) : (partsP l x).2 ≠ 0 := by rw [partsP_den]; exact Int.pow_ne_zero (rden x)
theorem partsP_eval (l : List Int) (x : Rat) : Rat.divInt (partsP l x).1 (partsP l x).2 = evalR l x := by
  by_cases h : l = []
  · subst h; simp [partsP, evalR]
  · have e := hA_eval x l
    have n := partsP_ne l x
    obtain ⟨c, r, rfl⟩ := List.exists_cons_of_ne_nil h
    have e1 : (partsP (c :: r) x).1 = (hA x.num x.den (c :: r)).1 := by simp [partsP]
    have e2 : (hA x.num x.den (c :: r)).2 = (partsP (c :: r) x).2 * x.den := by rw [partsP_den, hA_pow, List.length_cons, Int.pow_succ]; rfl
    rw [← e1, e2, Rat.intCast_mul] at e
    rw [Rat.divInt_eq_div]
    have dn : (x.den : Rat) ≠ 0 := by
      have := x.den_nz
      exact_mod_cast this
    have wn : ((partsP (c :: r) x).2 : Rat) ≠ 0 := by exact_mod_cast n
    have e3 : (((x.den : Int)) : Rat) = (x.den : Rat) := rfl
    rw [e3] at e
    generalize ((partsP (c :: r) x).1 : Rat) = f at *
    generalize ((partsP (c :: r) x).2 : Rat) = w at *
    generalize evalR (c :: r) x = v at *
    generalize (x.den : Rat) = d at *
    grind
theorem evalR_snoc (c : Int) (x : Rat) : ∀ l, evalR (l ++ [c]) x = evalR l x + (c : Rat) * x ^ l.length
  | [] => by simp [evalR, Rat.mul_zero, Rat.add_zero, Rat.zero_add]
  | a :: l => by
    rw [List.cons_append, evalR, evalR_snoc c x l, evalR, List.length_cons, Rat.pow_succ]
    grind
def addG : DD → SV
  | .tup [.int a, .int b] => .dat (.int (a + b))
  | _ => .dat .non
@[simp] theorem addG_two {a b : Int} : addG (.tup [.int a, .int b]) = .dat (.int (a + b)) := rfl
theorem zip_addI : ∀ (l m : List Int), (List.map addG ((l.zip m).map fun p => DD.tup [.int p.1, .int p.2])) = (List.zipWith (· + ·) l m).map fun i => SV.dat (.int i)
  | [], _ => rfl
  | _ :: _, [] => rfl
  | a :: l, b :: m => by
    have ih := zip_addI l m
    simp only [List.zip_cons_cons, List.map_cons, List.zipWith_cons_cons, ih, addG_two]
theorem ints_inj : ∀ {l m : List Int}, l.map DD.int = m.map DD.int → l = m
  | [], [], _ => rfl
  | [], _ :: _, h => by cases h
  | _ :: _, [], h => by cases h
  | a :: l, b :: m, h => by
    simp only [List.map_cons, List.cons.injEq, DD.int.injEq] at h
    rw [h.1, ints_inj h.2]
@[simp] theorem dI_inj {l m : List Int} : dI l = dI m ↔ l = m := ⟨fun h => ints_inj (by simpa [dI] using h), fun h => by rw [h]⟩
@[simp] theorem rT_inj {x y : Rat} : rT x = rT y ↔ x = y := by
  constructor
  · intro h
    have h' : x.num = y.num ∧ (x.den : Int) = y.den := by simpa [rT] using h
    exact Rat.ext h'.1 (by omega)
  · rintro rfl; rfl
theorem enumD_at (ds : List DD) (i : Nat) : (enumD ds)[i]? = (ds[i]?).map fun d => DD.tup [.int i, d] := by
  unfold enumD
  rw [List.getElem?_map, List.getElem?_zipIdx]
  cases ds[i]? <;> simp
theorem enumI_get {l : List Int} {i : Nat} {d : DD} (h : (enumD (l.map .int))[i]? = some d) : ∃ a, l[i]? = some a ∧ d = .tup [.int i, .int a] := by
  rw [enumD_at, List.getElem?_map] at h
  cases e : l[i]? with
  | none => rw [e] at h; cases h
  | some a => rw [e] at h; exact ⟨a, rfl, (Option.some.inj h).symm⟩
theorem intsD_get {l : List Int} {i : Nat} {d : DD} (h : (l.map DD.int)[i]? = some d) : ∃ a, l[i]? = some a ∧ d = .int a := by
  rw [List.getElem?_map] at h
  cases e : l[i]? with
  | none => rw [e] at h; cases h
  | some a => rw [e] at h; exact ⟨a, rfl, (Option.some.inj h).symm⟩
theorem Sm.pow {k : Nat} {a : Int} (h : Sm k a) : ∀ n : Nat, Sm (k * n + 1) (a ^ n)
  | 0 => by unfold Sm; simp
  | n + 1 => by
    rw [Int.pow_succ]
    exact ((Sm.pow h n).mul h).mono (by rw [Nat.mul_succ]; omega)
/-- the list as a tree -/
def tI (l : List Int) : List SV := l.map fun i => .dat (.int i)
@[simp] theorem tI_len (l : List Int) : (tI l).length = l.length := by simp [tI]
theorem tI_at {l : List Int} {n : Nat} (h : n < l.length) : atI (tI l) (n : Int) = some (.dat (.int (l.getD n 0))) := by
  unfold tI
  rw [atI_map, atI_nat h]
  simp [List.getD_eq_getElem?_getD, h]
theorem tI_set {l : List Int} {n : Nat} {v : Int} : (tI l).set n (.dat (.int v)) = tI (l.set n v) := by simp [tI, List.map_set]
theorem tI_rep {n : Nat} {c : Int} : List.replicate n (SV.dat (.int c)) = tI (List.replicate n c) := by simp [tI]
theorem oI_tI (l : List Int) : oI l = .own (tI l) := rfl
theorem drop_at {l : List Int} {i : Nat} {a : Int} (h : l[i]? = some a) : l.drop i = a :: l.drop (i + 1) := by
  obtain ⟨hl, e⟩ := List.getElem?_eq_some_iff.mp h
  rw [List.drop_eq_getElem_cons hl, e]
@[simp] theorem ixN30 : ixN 3 0 = some 0 := rfl
@[simp] theorem ixN31 : ixN 3 1 = some 1 := rfl
@[simp] theorem ixN32 : ixN 3 2 = some 2 := rfl
@[simp] theorem bits10 : Builtin.Int.intBits 10 = 4 := by decide +kernel
theorem smc {k : Nat} {n : Int} (h : n.natAbs < 2 ^ k := by decide +kernel) : Sm k n := h
theorem Sm.pw {k n : Nat} {x : Int} (h : Sm k x) (e : k * n ≤ 134217728 := by decide) : (Builtin.Int.intBits x : Int) * n ≤ 134217728 := by
  have h1 : Builtin.Int.intBits x * n ≤ k * n := Nat.mul_le_mul_right n h.bits
  have : Builtin.Int.intBits x * n ≤ 134217728 := Nat.le_trans h1 e
  rw [← Int.natCast_mul]
  omega
theorem fmod_in (x : Int) {m : Int} (h : 0 < m) : 0 ≤ x.fmod m ∧ x.fmod m < m := by
  rw [Int.fmod_eq_emod_of_nonneg _ (by omega)]
  exact ⟨Int.emod_nonneg _ (by omega), Int.emod_lt_of_pos _ h⟩
theorem fdiv_sm {k : Nat} {x m : Int} (h : Sm k x) (hm : 0 ≤ m) : Sm k (x.fdiv m) := by
  rw [Int.fdiv_eq_ediv_of_nonneg _ hm]
  exact h.le (Int.natAbs_ediv_le_natAbs _ _)
theorem fmod_sm {k : Nat} (x : Int) {m : Int} (h : 0 < m) (hm : Sm k m) : Sm k (x.fmod m) := by
  have := fmod_in x h
  exact hm.le (by omega)
theorem fmodN (l r : Nat) : (l : Int).fmod (r : Int) = ((l % r : Nat) : Int) := by
  rw [Int.fmod_eq_emod_of_nonneg _ (by omega), Int.natCast_emod]
/-- the turns of Euclid's way -/
structure Eu (g : Nat) (i l r : Nat) : Prop where
  g : Nat.gcd l r = g
  z : i = 0 → r < 2 ^ 9000
  s : 0 < i → r < l ∧ l * r * 2 ^ (i - 1) < 2 ^ 9000 * 2 ^ 9000
theorem Eu.step {g i l r : Nat} (h : Eu g i l r) (h0 : r ≠ 0) : Eu g (i + 1) r (l % r) := by
  have lt := Nat.mod_lt l (Nat.pos_of_ne_zero h0)
  refine ⟨?_, fun z => by omega, fun _ => ⟨lt, ?_⟩⟩
  · rw [Nat.gcd_comm r, ← Nat.gcd_rec, Nat.gcd_comm]; exact h.g
  · by_cases z : i = 0
    · subst z
      have h1 := h.z rfl
      simp only [Nat.zero_add, Nat.sub_self, Nat.pow_zero, Nat.mul_one]
      exact Nat.mul_lt_mul'' h1 (Nat.lt_trans lt h1)
    · obtain ⟨h1, h2⟩ := h.s (by omega)
      refine Nat.lt_of_le_of_lt ?_ h2
      obtain ⟨n, rfl⟩ : ∃ n, i = n + 1 := ⟨i - 1, by omega⟩
      simp only [Nat.add_sub_cancel]
      rw [Nat.pow_succ]
      have h3 : l % r + r ≤ l := by
        have := Nat.mod_add_div l r
        have h4 : 1 ≤ l / r := Nat.div_pos (by omega) (by omega)
        have := Nat.mul_le_mul_left r h4
        omega
      have h5 : l % r * 2 ≤ l := by omega
      calc r * (l % r) * (2 ^ n * 2) = (l % r * 2) * r * 2 ^ n := by grind
        _ ≤ l * r * 2 ^ n := Nat.mul_le_mul_right _ (Nat.mul_le_mul_right _ h5)
theorem Eu.last {g l r : Nat} (h : Eu g 20000 l r) : l = g := by
  obtain ⟨h1, h2⟩ := h.s (by omega)
  have e : l * r = 0 := by
    by_cases z : l * r = 0
    · exact z
    · have a : 1 * 2 ^ (20000 - 1) ≤ l * r * 2 ^ (20000 - 1) := Nat.mul_le_mul_right _ (by omega)
      rw [← Nat.pow_add] at h2
      have b : 2 ^ (9000 + 9000) ≤ 2 ^ (20000 - 1) := Nat.pow_le_pow_right (by omega) (by omega)
      omega
  have r0 : r = 0 := by
    rcases Nat.mul_eq_zero.mp e with z | z
    · omega
    · exact z
  have := h.g
  rw [r0, Nat.gcd_zero_right] at this
  exact this
def addAt (L M : List Int) : DD → SV
  | .int k => .dat (.int (L.getD k.toNat 0 + M.getD k.toNat 0))
  | _ => .dat .non
theorem addAt_all (L M : List Int) {n : Nat} (hL : L.length = n) (hM : M.length = n) : (rgD 0 1 n).map (addAt L M) = (List.zipWith (· + ·) L M).map fun i => SV.dat (.int i) := by
  apply List.ext_getElem
  · simp [rgD, hL, hM]
  · intro i h1 h2
    have hi : i < n := by simpa [rgD] using h1
    simp [rgD, addAt, hL, hM, hi]
theorem rT_int (c : Int) : DD.tup [.int c, .int 1] = rT (c : Rat) := by simp [rT]
theorem Qb.pow {k : Nat} {x : Rat} (h : Qb k x) : ∀ n : Nat, Qb (k * n + 1) (x ^ n)
  | 0 => by
    have e : x ^ 0 = ((1 : Int) : Rat) := by simp
    rw [e]
    exact Qb.int (smc (by simp)) (by omega)
  | n + 1 => by
    rw [Rat.pow_succ]
    exact ((Qb.pow h n).mul h).mono (by rw [Nat.mul_succ]; omega)
theorem evalR_take {l : List Int} {i : Nat} {c : Int} (x : Rat) (h : l[i]? = some c) : evalR (l.take (i + 1)) x = evalR (l.take i) x + (c : Rat) * x ^ i := by
  have hi := (List.getElem?_eq_some_iff.mp h).1
  rw [List.take_add_one, h, Option.toList_some, evalR_snoc, List.length_take, Nat.min_eq_left (by omega)]
theorem evalR_qb {A B n : Nat} {x : Rat} (hx : Qb B x) {l : List Int} (sl : ∀ c ∈ l, Sm A c) (hn : l.length ≤ n) : ∀ i, i ≤ l.length → Qb ((A + B * (n + 1) + 3) * i + 1) (evalR (l.take i) x)
  | 0, _ => by
    show Qb _ ((0 : Int) : Rat)
    exact Qb.int (smc (by simp)) (by omega)
  | i + 1, h => by
    have ih := evalR_qb hx sl hn i (by omega)
    rw [evalR_take x (List.getElem?_eq_getElem (show i < l.length by omega))]
    have hc : Qb (A + 1) ((l[i] : Int) : Rat) := Qb.int ((sl _ (List.getElem_mem _)).mono (by omega)) (by omega)
    refine (ih.add (hc.mul (hx.pow i))).mono ?_
    have := Nat.mul_le_mul (Nat.le_refl B) (show i ≤ n + 1 by omega)
    rw [Nat.mul_succ (A + B * (n + 1) + 3) i]
    omega
@[simp] theorem tI_data (l : List Int) : (tI l).map SV.data = l.map .int := by simp [tI]
theorem tI_end (l : List Int) : atI (tI l) (-1) = l.getLast?.map fun i => SV.dat (.int i) := by rw [atI_end]; simp [tI]
theorem tI_snoc (l : List Int) (i : Int) : tI l ++ [SV.dat (.int i)] = tI (l ++ [i]) := by simp [tI]
theorem ixN_end {n : Nat} (h : 0 < n) : ixN n (-1) = some (n - 1) := by
  unfold ixN
  have h1 : (1 : Int) ≤ n := by omega
  have h2 : (-1 + (n : Int)).toNat = n - 1 := by omega
  simp [h1, h2]
theorem at4 {a b c d : Int} {n : Int} (h0 : 0 ≤ n) (h1 : n < 4) : ∃ x, atI [DD.int a, DD.int b, DD.int c, DD.int d] n = some (.int x) ∧ (x = a ∨ x = b ∨ x = c ∨ x = d) := by
  have : n = 0 ∨ n = 1 ∨ n = 2 ∨ n = 3 := by omega
  rcases this with rfl | rfl | rfl | rfl
  · exact ⟨a, by simp, .inl rfl⟩
  · exact ⟨b, by simp, .inr (.inl rfl)⟩
  · exact ⟨c, by simp, .inr (.inr (.inl rfl))⟩
  · exact ⟨d, by rfl, .inr (.inr (.inr rfl))⟩
theorem at3 {a b c : Int} {n : Int} (h0 : 0 ≤ n) (h1 : n < 3) : ∃ x, atI [DD.int a, DD.int b, DD.int c] n = some (.int x) ∧ (x = a ∨ x = b ∨ x = c) := by
  have : n = 0 ∨ n = 1 ∨ n = 2 := by omega
  rcases this with rfl | rfl | rfl
  · exact ⟨a, by simp, .inl rfl⟩
  · exact ⟨b, by simp, .inr (.inl rfl)⟩
  · exact ⟨c, by simp, .inr (.inr rfl)⟩
theorem sm_of {k : Nat} {n b : Int} (h0 : -b ≤ n) (h1 : n ≤ b) (hb : b.natAbs < 2 ^ k := by decide +kernel) : Sm k n := by
  have : n.natAbs ≤ b.natAbs := by omega
  exact Nat.lt_of_le_of_lt this hb
end DL

namespace DL
open PySem PySem.Spec PyProof.Rows L2
/-! ### copies, marks -/
mutual
/-- no list within -/
def noL : DD → Bool
  | .non => true
  | .bl _ => true
  | .int _ => true
  | .str _ => true
  | .tup l => noLs l
  | _ => false
def noLs : List DD → Bool
  | [] => true
  | d :: r => noL d && noLs r
end
mutual
def cp : DD → SV
  | .lst l => .own (cps l)
  | .tup l => if noLs l = true then .dat (.tup l) else .tp (cps l)
  | d => .dat d
def cps : List DD → List SV
  | [] => []
  | d :: r => cp d :: cps r
end
theorem cps_eq : ∀ l, cps l = l.map cp
  | [] => rfl
  | d :: r => by simp [cps, cps_eq r]
mutual
theorem cp_data : ∀ d : DD, (cp d).data = d
  | .lst l => by simp only [cp, SV.data, cps_data l]
  | .tup l => by
    rw [cp]
    by_cases h : noLs l = true
    · rw [if_pos h]; rfl
    · rw [if_neg h, SV.data, cps_data l]
  | .non => rfl
  | .bl _ => rfl
  | .int _ => rfl
  | .str _ => rfl
  | .obj _ _ => rfl
  | .opq _ => rfl
  | .exc _ _ _ _ => rfl
  | .dct _ => rfl
  | .at_ _ _ => rfl
  | .klst _ => rfl
theorem cps_data : ∀ l : List DD, SV.datas (cps l) = l
  | [] => rfl
  | d :: r => by simp only [cps, SV.datas, cp_data d, cps_data r]
end
/-- what can be copied -/
def okC : Nat → DD → Prop
  | 0, _ => False
  | n + 1, .lst l => l.length ≤ 2 ^ 24 ∧ ∀ d ∈ l, okC n d
  | n + 1, .tup l => l.length ≤ 2 ^ 24 ∧ ∀ d ∈ l, okC n d
  | _ + 1, .non => True
  | _ + 1, .bl _ => True
  | _ + 1, .int _ => True
  | _ + 1, .str _ => True
  | _ + 1, _ => False
theorem okC_up : ∀ {n : Nat} {d : DD}, okC n d → okC (n + 1) d
  | 0, _, h => h.elim
  | n + 1, .lst l, h => ⟨h.1, fun d m => okC_up (h.2 d m)⟩
  | n + 1, .tup l, h => ⟨h.1, fun d m => okC_up (h.2 d m)⟩
  | _ + 1, .non, _ => trivial
  | _ + 1, .bl _, _ => trivial
  | _ + 1, .int _, _ => trivial
  | _ + 1, .str _, _ => trivial
def cCopy (n : Nat) : Ctr := fun as Q => ∃ d, as = [.dat d] ∧ okC n d ∧ Q (cp d) as
/-! lists told with their places -/
mutual
def labD : DD → List DD
  | .at_ v (.lst l) => .at_ v (.lst l) :: labs l
  | .tup l => labs l
  | _ => []
def labs : List DD → List DD
  | [] => []
  | d :: r => labD d ++ labs r
end
def okL : Nat → DD → Prop
  | 0, _ => False
  | n + 1, .at_ _ (.lst l) => l.length ≤ 2 ^ 24 ∧ (labs l).length < 2 ^ 24 - 1 ∧ ∀ d ∈ l, okL n d
  | n + 1, .tup l => l.length ≤ 2 ^ 24 ∧ (labs l).length < 2 ^ 24 - 1 ∧ ∀ d ∈ l, okL n d
  | _ + 1, .non => True
  | _ + 1, .bl _ => True
  | _ + 1, .int _ => True
  | _ + 1, .str _ => True
  | _ + 1, _ => False
def cLists (n : Nat) : Ctr := fun as Q => ∃ d, as = [.dat d] ∧ okL n d ∧ Q (.own ((labD d).map .dat)) as
theorem labs_eq : ∀ l, labs l = (l.map labD).flatten
  | [] => rfl
  | d :: r => by simp [labs, labs_eq r]
theorem labs_app (l m : List DD) : labs (l ++ m) = labs l ++ labs m := by simp [labs_eq]
theorem labs_step {l : List DD} {i : Nat} {d : DD} (h : l[i]? = some d) : labs (l.take (i + 1)) = labs (l.take i) ++ labD d := by
  rw [List.take_add_one, h, Option.toList_some, labs_app]
  simp [labs]
theorem labs_le (l : List DD) (i : Nat) : (labs (l.take i)).length ≤ (labs l).length := by
  have : labs l = labs (l.take i) ++ labs (l.drop i) := by rw [← labs_app, List.take_append_drop]
  rw [this, List.length_append]
  omega
def negG : DD → SV
  | .int i => .dat (.int (0 - i))
  | _ => .dat .non
@[simp] theorem negG_int {i : Int} : negG (.int i) = .dat (.int (0 - i)) := rfl
theorem negG_all (l : List Int) : (l.map DD.int).map negG = tI (l.map fun i => 0 - i) := by simp [tI]
@[simp] theorem ints_inj' {l m : List Int} : (l.map DD.int = m.map DD.int) ↔ l = m := ⟨ints_inj, fun h => by rw [h]⟩
/-- a polynomial as the law draws it -/
structure PL (l : List Int) : Prop where
  n : l.length ≤ 8
  b : Bd 1000000 l
  z : l.getLast? ≠ some 0
theorem neg_bd {B : Nat} {l : List Int} (h : Bd B l) : Bd B (l.map fun i => 0 - i) := fun c m => by
  obtain ⟨a, ha, rfl⟩ := List.mem_map.mp m
  have := h a ha
  omega
theorem PL.neg {l : List Int} (h : PL l) : PL (l.map fun i => 0 - i) := ⟨by simpa using h.n, neg_bd h.b, by
  have := h.z
  rw [List.getLast?_map]
  cases e : l.getLast? with
  | none => simp
  | some a =>
    rw [e] at this
    simp at this ⊢
    omega⟩
theorem app_bd {B : Nat} {l m : List Int} (h1 : Bd B l) (h2 : Bd B m) : Bd B (l ++ m) := fun c z => (List.mem_append.mp z).elim (h1 c) (h2 c)
theorem take_bd {B n : Nat} {l : List Int} (h : Bd B l) : Bd B (l.take n) := fun c z => h c (List.mem_of_mem_take z)
theorem drop_bd {B n : Nat} {l : List Int} (h : Bd B l) : Bd B (l.drop n) := fun c z => h c (List.mem_of_mem_drop z)
theorem PL.mix {l : List Int} (h : PL l) {n : Nat} (hn : n ≤ 2) : PL (trim (l.take n ++ (l.drop 2).map fun i => 0 - i)) := ⟨by
  refine Nat.le_trans (trim_le _) ?_
  have := h.n
  simp
  omega, trim_bd (app_bd (take_bd h.b) (neg_bd (drop_bd h.b))), trim_last _⟩
theorem cut_take {α : Type} {l : List α} {n : Nat} : DL.cutD l none (some (n : Int)) = l.take n := by
  unfold DL.cutD
  rw [HT.sIx_none, HT.sIx_nat, List.drop_zero, Nat.sub_zero]
  by_cases h : n ≤ l.length
  · rw [Nat.min_eq_left h]
  · rw [Nat.min_eq_right (by omega), List.take_length, List.take_of_length_le (by omega)]
theorem cut_from2 {α : Type} {l : List α} : DL.cutD l (some 2) none = l.drop 2 := cut_from (n := 2)
theorem cut_to5 {α : Type} {l : List α} : DL.cutD l none (some 5) = l.take 5 := cut_take (n := 5)
theorem cut_to6 {α : Type} {l : List α} : DL.cutD l none (some 6) = l.take 6 := cut_take (n := 6)
end DL

namespace DL
open PySem PySem.Spec PyProof.Rows L2
/-! ### trees of lists, marked in order -/
mutual
def cnt : SV → Nat
  | .own ts => cnts ts + 1
  | .tp ts => cnts ts
  | .dat _ => 0
  | .ob _ _ => 0
  | .ex _ _ _ _ => 0
def cnts : List SV → Nat
  | [] => 0
  | t :: r => cnt t + cnts r
end
mutual
def mk (k : Nat) : Nat → SV → SV
  | b, .own ts => .own (mks k (b + 1) ts ++ if b < k then [.dat (.int b)] else [])
  | _, .dat d => .dat d
  | _, .ob C fs => .ob C fs
  | _, .ex a dx C t => .ex a dx C t
  | b, .tp ts => .tp (mks k b ts)
def mks (k : Nat) : Nat → List SV → List SV
  | _, [] => []
  | b, t :: r => mk k b t :: mks k (b + cnt t) r
end
def markT (t : SV) : SV := mk (cnt t) 0 t
mutual
theorem mk_out {j : Nat} : ∀ (b : Nat) (t : SV), j < b ∨ b + cnt t ≤ j → mk (j + 1) b t = mk j b t
  | b, .own ts, h => by
    simp only [cnt] at h
    rw [mk, mk, mks_out (b + 1) ts (by omega)]
    have : (b < j + 1) = (b < j) := by simp only [eq_iff_iff]; omega
    simp only [this]
  | _, .dat _, _ => rfl
  | _, .ob _ _, _ => rfl
  | _, .ex _ _ _ _, _ => rfl
  | b, .tp ts, h => by rw [mk, mk, mks_out b ts (by simpa only [cnt] using h)]
theorem mks_out {j : Nat} : ∀ (b : Nat) (ts : List SV), j < b ∨ b + cnts ts ≤ j → mks (j + 1) b ts = mks j b ts
  | _, [], _ => rfl
  | b, t :: r, h => by
    simp only [cnts] at h
    rw [mks, mks, mk_out b t (by omega), mks_out (b + cnt t) r (by omega)]
end
mutual
theorem mk_zero : ∀ (b : Nat) (t : SV), mk 0 b t = t
  | b, .own ts => by rw [mk, mks_zero (b + 1) ts]; simp
  | _, .dat _ => rfl
  | _, .ob _ _ => rfl
  | _, .ex _ _ _ _ => rfl
  | b, .tp ts => by rw [mk, mks_zero b ts]
theorem mks_zero : ∀ (b : Nat) (ts : List SV), mks 0 b ts = ts
  | _, [] => rfl
  | b, t :: r => by rw [mks, mk_zero, mks_zero]
end
theorem mks_len (k : Nat) : ∀ (b : Nat) (ts : List SV), (mks k b ts).length = ts.length
  | _, [] => rfl
  | b, t :: r => by rw [mks, List.length_cons, mks_len k (b + cnt t) r, List.length_cons]
/-- what can be marked -/
def okT : Nat → SV → Prop
  | 0, _ => False
  | n + 1, .own ts => ts.length < 2 ^ 24 ∧ ∀ t ∈ ts, okT n t
  | n + 1, .dat d => okL (n + 1) d ∧ labD d = []
  | _ + 1, .ob _ _ => False
  | _ + 1, .ex _ _ _ _ => False
  | n + 1, .tp ts => ts.length < 2 ^ 24 ∧ ∀ t ∈ ts, okT n t
def key : DD → V
  | .at_ v _ => v
  | _ => .non
section
variable {K : PySem.W.Frag} {G H F : Hp}
theorem labs_nil : ∀ {ds : List DD}, (∀ d ∈ ds, labD d = []) → labs ds = []
  | [], _ => rfl
  | d :: r, h => by rw [labs, h d List.mem_cons_self, labs_nil fun x m => h x (List.mem_cons_of_mem _ m)]; rfl
mutual
theorem OT.lab (s : Sub G F) : ∀ (t : SV) {n : Nat} {v : V} {fp : List Addr}, OT K G H v t fp → okT n t → fp.length < 2 ^ 24 - 1 → (∀ a ∈ fp, ∀ o, H a = some o → F a = some o) →
    ∃ d, Rq K F v d ∧ okL n d ∧ (labD d).map key = fp.map V.ref
  | .dat d, 0, _, _, _, h, _, _ => h.elim
  | .dat d, n + 1, _, _, o, h, _, _ => by
    obtain ⟨r, rfl⟩ := o.dat_inv
    exact ⟨d, r.mono s, h.1, by rw [h.2]; rfl⟩
  | .own ts, 0, _, _, _, h, _, _ => h.elim
  | .own ts, n + 1, _, _, o, h, z, k => by
    obtain ⟨a, vs, f, rfl, rfl, e1, e2, os, na⟩ := o.own_inv
    simp only [List.length_cons] at z
    obtain ⟨ds, r, ok, lk, hl⟩ := OTs.lab s ts os h.2 (by omega) fun x m => k x (List.mem_cons_of_mem _ m)
    have lz : (labs ds).length = f.length := by
      have := congrArg List.length lk
      simpa using this
    refine ⟨.at_ (.ref a) (.lst ds), .at_ (.lst (.inl (k a List.mem_cons_self _ e1)) r), ⟨?_, ?_, ok⟩, ?_⟩
    · have := h.1; omega
    · omega
    · rw [labD, List.map_cons, lk]; rfl
  | .ob _ _, 0, _, _, _, h, _, _ => h.elim
  | .ob _ _, _ + 1, _, _, _, h, _, _ => h.elim
  | .ex _ _ _ _, 0, _, _, _, h, _, _ => h.elim
  | .ex _ _ _ _, _ + 1, _, _, _, h, _, _ => h.elim
  | .tp ts, 0, _, _, _, h, _, _ => h.elim
  | .tp ts, n + 1, _, _, o, h, z, k => by
    obtain ⟨a, vs, rfl, e1, os⟩ := o.tp_inv
    obtain ⟨ds, r, ok, lk, hl⟩ := OTs.lab s ts os h.2 z k
    have lz : (labs ds).length < 2 ^ 24 - 1 := by
      have e := congrArg List.length lk
      rw [List.length_map, List.length_map] at e
      rw [e]; exact z
    refine ⟨.tup ds, .tup (s.t e1) r, ⟨?_, lz, ok⟩, ?_⟩
    · have := h.1; omega
    · rw [labD, lk]
theorem OTs.lab (s : Sub G F) : ∀ (ts : List SV) {n : Nat} {vs : List V} {fp : List Addr}, OTs K G H vs ts fp → (∀ t ∈ ts, okT n t) → fp.length < 2 ^ 24 - 1 → (∀ a ∈ fp, ∀ o, H a = some o → F a = some o) →
    ∃ ds, RqA K F vs ds ∧ (∀ d ∈ ds, okL n d) ∧ (labs ds).map key = fp.map V.ref ∧ ds.length = ts.length
  | [], _, _, _, o, _, _, _ => by
    cases o
    exact ⟨[], .nil, fun _ m => (nomatch m), rfl, rfl⟩
  | t :: r, n, _, _, o, h, z, k => by
    cases o with
    | cons a b dj =>
      rw [List.length_append] at z
      obtain ⟨d, r1, o1, l1⟩ := OT.lab s t a (h t List.mem_cons_self) (by omega) fun x m => k x (List.mem_append_left _ m)
      obtain ⟨ds, r2, o2, l2, hl⟩ := OTs.lab s r b (fun x m => h x (List.mem_cons_of_mem _ m)) (by omega) fun x m => k x (List.mem_append_right _ m)
      refine ⟨d :: ds, .cons r1 r2, fun x m => ?_, ?_, by simp [hl]⟩
      · rcases List.mem_cons.mp m with e | m
        · rw [e]; exact o1
        · exact o2 x m
      · rw [labs, List.map_append, l1, l2, List.map_append]
end
theorem OTs.unsnocD {d : DD} : ∀ {ts : List SV} {vs : List V} {f : List Addr}, OTs K G H vs (ts ++ [.dat d]) f → ∃ ws w, vs = ws ++ [w] ∧ OTs K G H ws ts f ∧ Rq K G w d
  | [], _, _, h => by
    cases h with
    | cons a b dj =>
      cases b
      obtain ⟨r, rfl⟩ := a.dat_inv
      exact ⟨[], _, rfl, .nil, r⟩
  | t :: ts, _, _, h => by
    rw [List.cons_append] at h
    cases h with
    | cons a b dj =>
      obtain ⟨ws, w, rfl, o, r⟩ := OTs.unsnocD b
      exact ⟨_ :: ws, w, rfl, .cons a o dj, r⟩
theorem OTs.snocD {d : DD} {w : V} (r : Rq K G w d) {ts : List SV} {vs : List V} {f : List Addr} (h : OTs K G H vs ts f) : OTs K G H (vs ++ [w]) (ts ++ [.dat d]) f := by
  have := h.snoc (f2 := []) (.dat r) (fun _ _ z => nomatch z)
  simpa using this
mutual
theorem OT.size : ∀ (t : SV) {n k b : Nat} {v : V} {fp : List Addr}, OT K G H v (mk k b t) fp → okT n t → fp.length = cnt t
  | .dat d, _, _, _, _, _, o, _ => by
    rw [mk] at o
    obtain ⟨_, rfl⟩ := o.dat_inv
    rfl
  | .own ts, 0, _, _, _, _, _, h => h.elim
  | .own ts, n + 1, k, b, _, _, o, h => by
    rw [mk] at o
    obtain ⟨a, vs, f, rfl, rfl, e1, e2, os, na⟩ := o.own_inv
    have : f.length = cnts ts := by
      by_cases q : b < k
      · rw [if_pos q] at os
        obtain ⟨ws, w, _, o1, _⟩ := os.unsnocD
        exact OTs.size ts o1 h.2
      · rw [if_neg q, List.append_nil] at os
        exact OTs.size ts os h.2
    simp [cnt, this]
  | .ob _ _, 0, _, _, _, _, _, h => h.elim
  | .ob _ _, _ + 1, _, _, _, _, _, h => h.elim
  | .ex _ _ _ _, 0, _, _, _, _, _, h => h.elim
  | .ex _ _ _ _, _ + 1, _, _, _, _, _, h => h.elim
  | .tp _, 0, _, _, _, _, _, h => h.elim
  | .tp ts, n + 1, _, _, _, _, o, h => by
    rw [mk] at o
    obtain ⟨a, vs, rfl, _, os⟩ := o.tp_inv
    rw [cnt]
    exact OTs.size ts os h.2
theorem OTs.size : ∀ (ts : List SV) {n k b : Nat} {vs : List V} {fp : List Addr}, OTs K G H vs (mks k b ts) fp → (∀ t ∈ ts, okT n t) → fp.length = cnts ts
  | [], _, _, _, _, _, o, _ => by
    rw [mks] at o
    cases o
    rfl
  | t :: r, n, k, b, _, _, o, h => by
    rw [mks] at o
    cases o with
    | cons a b dj =>
      rw [List.length_append, OT.size t a (h t List.mem_cons_self), OTs.size r b fun x m => h x (List.mem_cons_of_mem _ m), cnts]
end
theorem OT.up {a : Addr} {o : HO} {t : SV} {v : V} {fp : List Addr} (h : OT K G H v t fp) (n : a ∉ fp) : OT K G (upd H a o) v t fp :=
  h.mono (Sub.refl G) (fun x m u e => by rw [upd_ne (show x ≠ a from fun z => n (by rw [← z]; exact m))]; exact e) fun x m => (h.here x m).2
theorem OTs.up {a : Addr} {o : HO} {t : List SV} {v : List V} {fp : List Addr} (h : OTs K G H v t fp) (n : a ∉ fp) : OTs K G (upd H a o) v t fp :=
  h.mono (Sub.refl G) (fun x m u e => by rw [upd_ne (show x ≠ a from fun z => n (by rw [← z]; exact m))]; exact e) fun x m => (h.here x m).2
mutual
theorem OT.mark {j : Nat} : ∀ (t : SV) {n b : Nat} {v : V} {fp : List Addr}, OT K G H v (mk j b t) fp → okT n t → b ≤ j → j < b + cnt t →
    ∃ a vs, fp[j - b]? = some a ∧ H a = some (.lst vs) ∧ vs.length < 2 ^ 24 ∧ OT K G (upd H a (.lst (vs ++ [.int j]))) v (mk (j + 1) b t) fp
  | .dat d, _, b, _, _, _, _, h1, h2 => by simp only [cnt] at h2; omega
  | .own ts, 0, _, _, _, _, h, _, _ => h.elim
  | .own ts, n + 1, b, _, _, o, h, h1, h2 => by
    rw [mk] at o
    obtain ⟨a, vs, f, rfl, rfl, e1, e2, os, na⟩ := o.own_inv
    simp only [cnt] at h2
    by_cases q : j = b
    · subst q
      rw [if_neg (Nat.lt_irrefl _), List.append_nil] at os
      refine ⟨a, vs, by simp, e1, ?_, ?_⟩
      · have := os.length
        have l : (mks j (j + 1) ts).length = ts.length := mks_len _ _ _
        have := h.1
        omega
      · rw [mk, mks_out (j + 1) ts (by omega), if_pos (by omega)]
        exact .own upd_same e2 ((os.up na).snocD (.int _)) na
    · have lt : b < j := by omega
      rw [if_pos lt] at os
      obtain ⟨ws, w, rfl, o1, r⟩ := os.unsnocD
      obtain ⟨x, xs, g1, g2, g3, g4⟩ := OTs.mark ts o1 h.2 (by omega) (by omega)
      have mem := List.mem_of_getElem? g1
      refine ⟨x, xs, ?_, g2, g3, ?_⟩
      · obtain ⟨m, rfl⟩ : ∃ m, j = b + 1 + m := ⟨j - (b + 1), by omega⟩
        rw [show b + 1 + m - b = m + 1 by omega, List.getElem?_cons_succ]
        rw [show b + 1 + m - (b + 1) = m by omega] at g1
        exact g1
      · rw [mk, if_pos (by omega)]
        exact .own (by rw [upd_ne (show a ≠ x from fun z => na (by rw [z]; exact mem))]; exact e1) e2 (g4.snocD r) na
  | .ob _ _, _, _, _, _, _, _, h1, h2 => by simp only [cnt] at h2; omega
  | .ex _ _ _ _, _, _, _, _, _, _, h1, h2 => by simp only [cnt] at h2; omega
  | .tp ts, 0, _, _, _, _, h, _, _ => h.elim
  | .tp ts, n + 1, b, _, _, o, h, h1, h2 => by
    rw [mk] at o
    obtain ⟨a, vs, rfl, e1, os⟩ := o.tp_inv
    simp only [cnt] at h2
    obtain ⟨x, xs, g1, g2, g3, g4⟩ := OTs.mark ts os h.2 h1 h2
    exact ⟨x, xs, g1, g2, g3, by rw [mk]; exact .tp e1 g4⟩
theorem OTs.mark {j : Nat} : ∀ (ts : List SV) {n b : Nat} {vs : List V} {fp : List Addr}, OTs K G H vs (mks j b ts) fp → (∀ t ∈ ts, okT n t) → b ≤ j → j < b + cnts ts →
    ∃ a us, fp[j - b]? = some a ∧ H a = some (.lst us) ∧ us.length < 2 ^ 24 ∧ OTs K G (upd H a (.lst (us ++ [.int j]))) vs (mks (j + 1) b ts) fp
  | [], _, _, _, _, _, _, h1, h2 => by simp only [cnts] at h2; omega
  | t :: r, n, b, _, _, o, h, h1, h2 => by
    rw [mks] at o
    simp only [cnts] at h2
    cases o with
    | cons a c dj =>
      rename_i f1 f2
      have sz := OT.size t a (h t List.mem_cons_self)
      by_cases q : j < b + cnt t
      · obtain ⟨x, xs, g1, g2, g3, g4⟩ := OT.mark t a (h t List.mem_cons_self) h1 q
        have mem := List.mem_of_getElem? g1
        refine ⟨x, xs, ?_, g2, g3, ?_⟩
        · rw [List.getElem?_append_left (by omega)]; exact g1
        · rw [mks, mks_out (b + cnt t) r (by omega)]
          exact .cons g4 (c.up (dj x mem)) dj
      · obtain ⟨x, xs, g1, g2, g3, g4⟩ := OTs.mark r c (fun y m => h y (List.mem_cons_of_mem _ m)) (by omega) (by omega)
        have mem := List.mem_of_getElem? g1
        refine ⟨x, xs, ?_, g2, g3, ?_⟩
        · rw [List.getElem?_append_right (by omega), sz, show j - b - cnt t = j - (b + cnt t) by omega]; exact g1
        · rw [mks, mk_out b t (by omega)]
          exact .cons (a.up fun m => dj x m mem) g4 dj
end
end
end DL

namespace DL
open PySem PySem.Spec PyProof.Rows L2
def cMark : Ctr := fun as Q => ∃ t, as = [t] ∧ okT 8 t ∧ cnt t < 2 ^ 20 ∧ okR (markT t).data ∧ Q (.dat (.str (shD (markT t).data))) [markT t]
def rLenS (K : PySem.W.Frag) : List V → Hp → VK → Prop := fun xs H Q => ∃ p ys, xs = [.ref p] ∧ (SqL K H p ys ∨ SqT K H p ys) ∧ Q (.int ys.length) H
def tMark (K : PySem.W.Frag) (E : XK) : TS :=
  tSeq (tAsg (tCall (spD K (cLists 8)) [] E (tCons (tVar 0) tNil)) (gName 1))
    (tSeq (tFor (iRng1 (tCons (tCB (rLenS K) (tCons (tVar 1) tNil)) tNil)) (gName 2) (tDrop (tBM K "list" rAppend (tOp (rIx K) (tVar 1) (tVar 2)) (tCons (tVar 2) tNil))))
      (tRet (tCB (rRepr K) (tCons (tVar 0) tNil))))
section
variable {K : PySem.W.Frag} {G H : Hp}
theorem refs_of_at : ∀ {ds : List DD} {vs : List V}, RqA K G vs ds → (∀ d ∈ ds, ∃ v e, d = .at_ v e) → vs = ds.map key
  | [], _, .nil, _ => rfl
  | d :: r, _, .cons a b, h => by
    obtain ⟨v, e, rfl⟩ := h d List.mem_cons_self
    cases a
    rw [refs_of_at b fun x m => h x (List.mem_cons_of_mem _ m)]
    rfl
mutual
theorem labD_at : ∀ (d : DD), ∀ x ∈ labD d, ∃ v e, x = .at_ v e
  | .at_ v (.lst l), x, m => by
    rw [labD] at m
    rcases List.mem_cons.mp m with e | m
    · exact ⟨_, _, e⟩
    · exact labs_at l x m
  | .tup l, x, m => by
    rw [labD] at m
    exact labs_at l x m
  | .non, x, m => by simp [labD] at m
  | .bl _, x, m => by simp [labD] at m
  | .int _, x, m => by simp [labD] at m
  | .str _, x, m => by simp [labD] at m
  | .lst _, x, m => by simp [labD] at m
  | .obj _ _, x, m => by simp [labD] at m
  | .opq _, x, m => by simp [labD] at m
  | .exc _ _ _ _, x, m => by simp [labD] at m
  | .dct _, x, m => by simp [labD] at m
  | .klst _, x, m => by simp [labD] at m
  | .at_ _ .non, x, m => by simp [labD] at m
  | .at_ _ (.bl _), x, m => by simp [labD] at m
  | .at_ _ (.int _), x, m => by simp [labD] at m
  | .at_ _ (.str _), x, m => by simp [labD] at m
  | .at_ _ (.tup _), x, m => by simp [labD] at m
  | .at_ _ (.obj _ _), x, m => by simp [labD] at m
  | .at_ _ (.opq _), x, m => by simp [labD] at m
  | .at_ _ (.exc _ _ _ _), x, m => by simp [labD] at m
  | .at_ _ (.dct _), x, m => by simp [labD] at m
  | .at_ _ (.klst _), x, m => by simp [labD] at m
  | .at_ _ (.at_ _ _), x, m => by simp [labD] at m
theorem labs_at : ∀ (l : List DD), ∀ x ∈ labs l, ∃ v e, x = .at_ v e
  | [], x, m => by cases m
  | d :: r, x, m => by
    rw [labs] at m
    rcases List.mem_append.mp m with m | m
    · exact labD_at d x m
    · exact labs_at r x m
end
theorem mark_walk {E : XK} {vs : List V} {Q : VK} {E' : XK} (h : spD K cMark vs H Q E') : tMark K E { nx := fun _ H' => Q .non H', rt := Q } (vs.map some ++ [none, none]) H := by
  obtain ⟨G, as, fp, Qd, c, ⟨t, rfl, ht, hc, hr, hq⟩, kk⟩ := h
  obtain ⟨v, rfl⟩ : ∃ v, vs = [v] := by
    have := c.len
    match vs, this with
    | [v], _ => exact ⟨v, rfl⟩
  obtain ⟨v', ev, ot⟩ := c.slot 0 t rfl
  have : v = v' := by injection ev with z; injection z
  subst this
  have sz : (fp 0).length = cnt t := OT.size (k := 0) (b := 0) t (by rw [mk_zero]; exact ot) ht
  have nG : ∀ a ∈ fp 0, G a = none := fun a m => (ot.here a m).2
  have sg : Sub G (sealH G H (fp 0)) := sealH_sub nG
  obtain ⟨d, rd, okd, lk⟩ := OT.lab sg t ot ht (by omega) fun a m o e => by rw [sealH_in m]; exact e
  refine ⟨v, rfl, ?_⟩
  refine ⟨sealH G H (fp 0), [.dat d], fun _ => [], fun r _ => r = .own ((labD d).map .dat), ⟨rfl, fun a o e => ?_, fun i u hu => ?_, fun _ _ => rfl, fun _ _ _ z => nomatch z⟩, ⟨d, rfl, okd, rfl⟩, ?_⟩
  · by_cases m : a ∈ fp 0
    · rw [sealH_in m] at e; exact e
    · rw [sealH_out m] at e; exact c.sub a o e
  · cases i with
    | zero =>
      have : u = .dat d := by simpa using hu.symm
      subst this
      exact ⟨v, rfl, .dat rd⟩
    | succ i => simp at hu
  rintro r as' w G1 H1 fp1 fr c1 st in1 o1 d1 d2 rfl
  obtain ⟨L, us, f, rfl, rfl, hL, gL, os, nL⟩ := o1.own_inv
  have eus : us = (fp 0).map V.ref := by
    rw [← lk]
    have := os.dats
    exact refs_of_at this.1 (labD_at d)
  have hLn : H L = none := by
    rcases d2 L List.mem_cons_self with z | ⟨i, z⟩
    · exact z
    · cases z
  have keep1 : ∀ a o, H a = some o → H1 a = some o := fun a o e => st.keep a o (fun ⟨i, z⟩ => nomatch z) e
  have ot1 : OT K G H1 v t (fp 0) := ot.mono (Sub.refl G) (fun a m o e => keep1 a o e) nG
  refine ⟨.ref L, rfl, L, us, rfl, .inl (.inl (.inl hL)), ?_⟩
  refine ⟨_, rfl, by omega, by rw [eus]; simp; omega, ?_⟩
  have nlen : ((us.length : Int)).toNat = cnt t := by rw [eus]; simp [sz]
  rw [nlen]
  refine ⟨fun i m σ H' => m = cnt t - i ∧ i ≤ cnt t ∧ ∃ x2, σ = [some v, some (.ref L), x2] ∧ (∀ a o, a ∉ fp 0 → H a = some o → H' a = some o) ∧ OT K G H' v (mk i 0 t) (fp 0) ∧ H' L = some (.lst us), ⟨_, rfl, Nat.zero_le _, none, rfl, fun a o _ e => keep1 a o e, by rw [mk_zero]; exact ot1, hL⟩, ?_⟩
  rintro i m σ H2 ⟨rfl, hi, x2, rfl, kp, o2, hL2⟩
  by_cases lt : i < cnt t
  · refine .inr ⟨lt, fun σ' H' => i + 1 ≤ cnt t ∧ ∃ x2, σ' = [some v, some (.ref L), x2] ∧ (∀ a o, a ∉ fp 0 → H a = some o → H' a = some o) ∧ OT K G H' v (mk (i + 1) 0 t) (fp 0) ∧ H' L = some (.lst us), fun σ' H' q => ⟨cnt t - (i + 1), by omega, rfl, q⟩, ?_⟩
    rintro x H' ⟨rfl, rfl⟩
    have e0 : (0 : Int) + (i : Int) = (i : Int) := by omega
    rw [e0]
    obtain ⟨a, ws, g1, g2, g3, g4⟩ := OT.mark t o2 ht (Nat.zero_le _) (by omega)
    have mem := List.mem_of_getElem? g1
    have neL : L ≠ a := fun z => by
      obtain ⟨⟨o, e⟩, _⟩ := ot.here a mem
      rw [← z, hLn] at e; cases e
    have at1 : atI us (i : Int) = some (.ref a) := by
      have il : i < (fp 0).length := by omega
      rw [eus, atI_map, atI_nat il]
      rw [Nat.sub_zero, List.getElem?_eq_getElem il] at g1
      injection g1 with g1
      rw [g1]; rfl
    refine ⟨.ref L, rfl, .int i, rfl, .inl ⟨L, us, i, .ref a, rfl, rfl, .inl (.inl hL2), at1, ?_⟩⟩
    refine ⟨.inl ⟨rfl, _, .inl (.inl g2)⟩, .int i, rfl, a, ws, .int i, rfl, rfl, g2, g3, ?_⟩
    refine ⟨by omega, _, rfl, fun b o nb e => ?_, g4, by rw [upd_ne neL]; exact hL2⟩
    rw [upd_ne (show b ≠ a from fun z => nb (by rw [z]; exact mem))]
    exact kp b o nb e
  · have ei : i = cnt t := by omega
    subst ei
    refine .inl ⟨Nat.le_refl _, ?_⟩
    have sub2 : Sub G H2 := fun a o e => kp a o (fun m => by rw [nG a m] at e; cases e) (c.sub a o e)
    have rq : Rq K H2 v (markT t).data := o2.sealed sub2 fun _ _ _ e => e
    obtain ⟨h1, h2, h3, h4⟩ := hr
    refine ⟨v, rfl, v, _, rfl, rq.dp h1, h2, h3, h4, ?_⟩
    refine kk _ [markT t] _ G H2 fp [] ⟨rfl, sub2, fun i u hu => ?_, fun i hn => c.nil i fun u hu => ?_, c.dis⟩ ⟨Sub.refl G, fun a o n e => kp a o (fun m => n ⟨0, m⟩) e, fun a o _ _ g => g⟩ (fun a m => .inl m) (.dat (.str _)) (fun _ z => nomatch z) (fun _ z => nomatch z) hq
    · cases i with
      | zero =>
        have : u = markT t := by simpa using hu.symm
        subst this
        exact ⟨v, rfl, o2⟩
      | succ i => simp at hu
    · cases i with
      | zero => exact hn (markT t) rfl
      | succ i => simp at hu
end
section
variable {P : Program} {w : World} {K : PySem.W.Frag} {mg : Str → Option Value} {base : Heap} {f : Addr} {fd : FuncData} {x qual : Str} {params : Arguments} {body : List Stmt} {scope : Scope} {N ps : List Str} {k : Nat}
theorem mark_fn {Ex : XK} (F0 : FunD K x qual params body scope [] [] f fd) (S : FnScope N ps scope) (hN : N.length = 3) (hp : ps.length = 1)
    (hbody : ∀ (cdv : Value) (A : Around) (outer : List Env) (s : Shared) (H : Hp) (E : XK), RoomG k (A.deeper (envOfC qual scope s.heap.objs.size f cdv)) → PSs (cxOf CX0 P w K mg base N qual scope f cdv A outer s H E).nox body (tMark K Ex)) :
    FnG P w K mg base CX0 (k + 1) f fd ps (spD K cMark) := by
  obtain ⟨oc, od, dV, kV, doc, pm, an, cdv, ct, osl, rfl, lk, hcd, _, _⟩ := F0.ex
  have one : ∀ vs H Q E, spD K cMark vs H Q E → vs.length = 1 := fun vs H Q E ⟨G, as, fp, Qd, c, ⟨t, e, _⟩, _⟩ => by
    have := c.len
    rw [e] at this
    simpa using this
  refine fn_ofG lk hcd S (fun vs H Q E h => by rw [hp]; exact one vs H Q E h) fun A outer s H vs Q E hr h => ⟨_, (hbody cdv A outer s H E hr).nox, ?_⟩
  have e : L2.start N vs = vs.map some ++ [none, none] := by
    unfold L2.start
    rw [hN, one _ _ _ _ h]
    rfl
  rw [e]
  exact mark_walk h
end
end DL

namespace DL
open PySem PySem.Spec PyProof.Rows L2
/-! ### a tree's text, and the marked one's -/
mutual
def okS : SV → Bool
  | .dat d => d.pure && shw d.py
  | .own ts => okSs ts
  | .ob _ _ => false
  | .ex _ _ _ _ => false
  | .tp ts => okSs ts
def okSs : List SV → Bool
  | [] => true
  | t :: r => okS t && okSs r
end
mutual
def szT : SV → Nat
  | .dat d => (shD d).length
  | .own ts => szTs ts + 3
  | .ob _ _ => 0
  | .ex _ _ _ _ => 0
  | .tp ts => szTs ts + 3
def szTs : List SV → Nat
  | [] => 0
  | t :: r => szT t + 2 + szTs r
end
mutual
def dpT : SV → Nat
  | .dat d => d.py.depth
  | .own ts => dpTs ts + 1
  | .ob _ _ => 0
  | .ex _ _ _ _ => 0
  | .tp ts => dpTs ts + 1
def dpTs : List SV → Nat
  | [] => 0
  | t :: r => max (dpT t) (dpTs r)
end
mutual
theorem szT_ok : ∀ (t : SV), okS t = true → t.data.pure = true ∧ shw t.data.py = true ∧ (shD t.data).length ≤ szT t ∧ t.data.py.depth ≤ dpT t
  | .dat d, h => by
    rw [okS] at h
    have := Bool.and_eq_true_iff.mp h
    simp only [data_dat]
    exact ⟨this.1, this.2, Nat.le_refl _, Nat.le_refl _⟩
  | .own ts, h => by
    rw [okS] at h
    obtain ⟨h1, h2, h3, h4, h5⟩ := szTs_ok ts h
    refine ⟨h1, h2, ?_, ?_⟩
    · have := listText_len_le (PyData.shownAll (DD.pys (SV.datas ts)))
      rw [h4] at this
      show (listText (PyData.shownAll (DD.pys (SV.datas ts)))).length ≤ szTs ts + 3
      omega
    · show PyData.depthAll (DD.pys (SV.datas ts)) + 1 ≤ dpTs ts + 1
      omega
  | .ob _ _, h => by rw [okS] at h; cases h
  | .ex _ _ _ _, h => by rw [okS] at h; cases h
  | .tp ts, h => by
    rw [okS] at h
    obtain ⟨h1, h2, h3, h4, h5⟩ := szTs_ok ts h
    refine ⟨h1, h2, ?_, ?_⟩
    · have := tupleText_len_le (PyData.shownAll (DD.pys (SV.datas ts)))
      rw [h4] at this
      show (tupleText (PyData.shownAll (DD.pys (SV.datas ts)))).length ≤ szTs ts + 3
      omega
    · show PyData.depthAll (DD.pys (SV.datas ts)) + 1 ≤ dpTs ts + 1
      omega
theorem szTs_ok : ∀ (ts : List SV), okSs ts = true → DD.pures (SV.datas ts) = true ∧ shws (DD.pys (SV.datas ts)) = true ∧ ((PyData.shownAll (DD.pys (SV.datas ts))).map (·.length)).sum + 2 * ts.length ≤ szTs ts ∧ (PyData.shownAll (DD.pys (SV.datas ts))).length = ts.length ∧ PyData.depthAll (DD.pys (SV.datas ts)) ≤ dpTs ts
  | [], _ => ⟨rfl, rfl, Nat.le_refl _, rfl, Nat.le_refl _⟩
  | t :: r, h => by
    rw [okSs] at h
    have h := Bool.and_eq_true_iff.mp h
    obtain ⟨a1, a2, a3, a4⟩ := szT_ok t h.1
    obtain ⟨b1, b2, b3, b4, b5⟩ := szTs_ok r h.2
    have a3' : (PyData.shown t.data.py).length ≤ szT t := a3
    refine ⟨by simp [SV.datas, DD.pures, a1, b1], by simp [SV.datas, DD.pys, shws, a2, b2], ?_, by simp [SV.datas, DD.pys, PyData.shownAll, b4], ?_⟩
    · simp only [SV.datas, DD.pys, PyData.shownAll, List.map_cons, List.sum_cons, List.length_cons, szTs]
      omega
    · simp only [SV.datas, DD.pys, PyData.depthAll, dpTs]
      omega
end
theorem okSs_app : ∀ (l m : List SV), okSs (l ++ m) = (okSs l && okSs m)
  | [], m => by simp [okSs]
  | t :: r, m => by rw [List.cons_append, okSs, okSs, okSs_app r m, Bool.and_assoc]
theorem szTs_app : ∀ (l m : List SV), szTs (l ++ m) = szTs l + szTs m
  | [], m => by simp [szTs]
  | t :: r, m => by rw [List.cons_append, szTs, szTs, szTs_app r m]; omega
theorem dpTs_app : ∀ (l m : List SV), dpTs (l ++ m) = max (dpTs l) (dpTs m)
  | [], m => by simp [dpTs]
  | t :: r, m => by rw [List.cons_append, dpTs, dpTs, dpTs_app r m]; omega
theorem int_rz {b : Nat} (h : b < 2 ^ 24) : Rz 1921 0 (.int b) := Rz.int (by
  unfold Sm
  simp only [Int.natAbs_natCast]
  exact Nat.lt_of_lt_of_le h (Nat.pow_le_pow_right (by decide) (by decide)))
mutual
theorem mk_ok (k : Nat) : ∀ (b : Nat) (t : SV), okS t = true → b + cnt t < 2 ^ 24 → okS (mk k b t) = true ∧ szT (mk k b t) ≤ szT t + cnt t * 1923 ∧ dpT (mk k b t) = dpT t
  | _, .dat d, h, _ => by rw [mk]; exact ⟨h, by omega, rfl⟩
  | b, .own ts, h, hb => by
    rw [okS] at h
    simp only [cnt] at hb
    obtain ⟨h1, h2, h3⟩ := mks_ok k (b + 1) ts h (by omega)
    rw [mk]
    have z := int_rz (b := b) (by omega)
    by_cases q : b < k
    · rw [if_pos q]
      refine ⟨?_, ?_, ?_⟩
      · rw [okS, okSs_app, h1]
        simp [okSs, okS, z.p, z.s]
      · simp only [szT, cnt]
        rw [szTs_app]
        have := z.l
        simp only [szTs, szT]
        omega
      · simp only [dpT]
        rw [dpTs_app, h3]
        have := z.e
        simp only [dpTs, dpT]
        omega
    · rw [if_neg q, List.append_nil]
      refine ⟨by rw [okS]; exact h1, ?_, by simp only [dpT, h3]⟩
      simp only [szT, cnt]
      omega
  | _, .ob _ _, h, _ => by rw [okS] at h; cases h
  | _, .ex _ _ _ _, h, _ => by rw [okS] at h; cases h
  | b, .tp ts, h, hb => by
    rw [okS] at h
    simp only [cnt] at hb
    obtain ⟨h1, h2, h3⟩ := mks_ok k b ts h hb
    rw [mk]
    refine ⟨by rw [okS]; exact h1, ?_, by simp only [dpT, h3]⟩
    simp only [szT, cnt]
    omega
theorem mks_ok (k : Nat) : ∀ (b : Nat) (ts : List SV), okSs ts = true → b + cnts ts < 2 ^ 24 → okSs (mks k b ts) = true ∧ szTs (mks k b ts) ≤ szTs ts + cnts ts * 1923 ∧ dpTs (mks k b ts) = dpTs ts
  | _, [], _, _ => by rw [mks]; exact ⟨rfl, by omega, rfl⟩
  | b, t :: r, h, hb => by
    rw [okSs] at h
    have h := Bool.and_eq_true_iff.mp h
    simp only [cnts] at hb
    obtain ⟨a1, a2, a3⟩ := mk_ok k b t h.1 (by omega)
    obtain ⟨b1, b2, b3⟩ := mks_ok k (b + cnt t) r h.2 (by omega)
    rw [mks]
    refine ⟨by rw [okSs, a1, b1]; rfl, ?_, by rw [dpTs, dpTs, a3, b3]⟩
    simp only [szTs, cnts, Nat.add_mul]
    omega
end
/-- both texts can be told -/
theorem tree_okR {t : SV} (h : okS t = true) (hn : szT t + cnt t * 1923 ≤ 2 ^ 24) (hc : cnt t < 2 ^ 20) (hd : dpT t ≤ 60) : okR t.data ∧ okR (markT t).data := by
  obtain ⟨a1, a2, a3, a4⟩ := szT_ok t h
  obtain ⟨m1, m2, m3⟩ := mk_ok (cnt t) 0 t h (by omega)
  obtain ⟨b1, b2, b3, b4⟩ := szT_ok (markT t) m1
  unfold markT at *
  exact ⟨⟨a1, a2, by show _ ≤ 2 ^ 24; omega, by omega⟩, ⟨b1, b2, by show _ ≤ 2 ^ 24; omega, by omega⟩⟩
/-! rows of lists of ints and of fractions -/
inductive Itm where
  | L (l : List Int)
  | R (q : Rat)
def Itm.d : Itm → DD
  | .L l => dI l
  | .R q => rT q
def Itm.t : Itm → SV
  | .L l => oI l
  | .R q => .dat (rT q)
def Itm.ok : Itm → Prop
  | .L l => l.length ≤ 1000 ∧ ∀ c ∈ l, Sm 1900 c
  | .R q => Qb 1900 q
theorem cps_ints : ∀ l : List Int, cps (l.map .int) = tI l
  | [] => rfl
  | c :: l => by
    have := cps_ints l
    simp only [List.map_cons, cps, cp, this, tI]
theorem cp_dI (l : List Int) : cp (dI l) = oI l := by
  unfold dI
  rw [cp, cps_ints]
  rfl
theorem cp_rT (q : Rat) : cp (rT q) = .dat (rT q) := by
  unfold rT
  rw [cp]
  exact if_pos (by simp only [noLs, noL]; rfl)
theorem Itm.cp_eq (i : Itm) : cp i.d = i.t := by
  cases i with
  | L l => exact cp_dI l
  | R q => exact cp_rT q
theorem cp_items (is : List Itm) : cp (.lst (is.map Itm.d)) = .own (is.map Itm.t) := by
  rw [cp, cps_eq, List.map_map]
  congr 1
  exact List.map_congr_left fun i _ => i.cp_eq
theorem okSs_ints : ∀ {l : List Int}, (∀ c ∈ l, Sm 1900 c) → okSs (tI l) = true ∧ szTs (tI l) ≤ l.length * 1923 ∧ dpTs (tI l) = 0 ∧ cnts (tI l) = 0
  | [], _ => ⟨rfl, Nat.zero_le _, rfl, rfl⟩
  | c :: l, h => by
    obtain ⟨h1, h2, h3, h4⟩ := okSs_ints fun x m => h x (List.mem_cons_of_mem _ m)
    have z := Rz.int ((h c List.mem_cons_self).mono (show 1900 ≤ 1920 by decide))
    have e : tI (c :: l) = .dat (.int c) :: tI l := rfl
    have zl := z.l
    have ze := z.e
    rw [e]
    refine ⟨by simp [okSs, okS, z.p, z.s, h1], ?_, ?_, by simp [cnts, cnt, h4]⟩
    · simp only [szTs, szT, List.length_cons]
      omega
    · simp only [dpTs, dpT]
      omega
theorem Itm.facts {i : Itm} (h : i.ok) : okS i.t = true ∧ szT i.t ≤ 1923010 ∧ dpT i.t ≤ 2 ∧ cnt i.t ≤ 1 := by
  cases i with
  | L l =>
    obtain ⟨h1, h2, h3, h4⟩ := okSs_ints h.2
    have := h.1
    refine ⟨h1, ?_, ?_, ?_⟩
    · show szTs (tI l) + 3 ≤ _
      omega
    · show dpTs (tI l) + 1 ≤ 2
      omega
    · show cnts (tI l) + 1 ≤ 1
      omega
  | R q =>
    have z := Rz.rat (Qb.mono h (show 1900 ≤ 1920 by decide))
    have zl := z.l
    have ze := z.e
    refine ⟨by simp [Itm.t, okS, z.p, z.s], ?_, ?_, Nat.zero_le _⟩
    · show (shD (rT q)).length ≤ _
      omega
    · show (rT q).py.depth ≤ 2
      omega
theorem items_facts : ∀ {is : List Itm}, (∀ i ∈ is, i.ok) → okSs (is.map Itm.t) = true ∧ szTs (is.map Itm.t) ≤ is.length * 1923012 ∧ dpTs (is.map Itm.t) ≤ 2 ∧ cnts (is.map Itm.t) ≤ is.length
  | [], _ => ⟨rfl, Nat.zero_le _, Nat.zero_le _, Nat.zero_le _⟩
  | i :: is, h => by
    obtain ⟨a1, a2, a3, a4⟩ := Itm.facts (h i List.mem_cons_self)
    obtain ⟨b1, b2, b3, b4⟩ := items_facts fun x m => h x (List.mem_cons_of_mem _ m)
    refine ⟨by simp [okSs, a1, b1], ?_, ?_, ?_⟩
    · simp only [List.map_cons, szTs, List.length_cons]
      omega
    · simp only [List.map_cons, dpTs]
      omega
    · simp only [List.map_cons, cnts, List.length_cons]
      omega
theorem okC_ints {n : Nat} {l : List Int} (h : l.length ≤ 1000) : okC (n + 2) (dI l) := ⟨by simp; omega, fun d m => by
  obtain ⟨c, _, rfl⟩ := List.mem_map.mp m
  exact trivial⟩
theorem okC_rat {n : Nat} {q : Rat} : okC (n + 2) (rT q) := ⟨by simp, fun d m => by
  rcases List.mem_cons.mp m with rfl | m
  · exact trivial
  · have : d = .int q.den := by simpa using m
    subst this
    exact trivial⟩
theorem okT_ints {n : Nat} {l : List Int} (h : l.length ≤ 1000) : okT (n + 2) (oI l) := ⟨by simp; omega, fun d m => by
  obtain ⟨c, _, rfl⟩ := List.mem_map.mp m
  exact ⟨trivial, rfl⟩⟩
theorem okT_rat {n : Nat} {q : Rat} : okT (n + 2) (.dat (rT q)) := ⟨⟨by simp, by simp [labs, labD], fun d m => by
  rcases List.mem_cons.mp m with rfl | m
  · exact trivial
  · have : d = .int q.den := by simpa using m
    subst this
    exact trivial⟩, by simp [rT, labD, labs]⟩
/-- what the comparison of rows asks for -/
theorem items_right {is : List Itm} (h : ∀ i ∈ is, i.ok) (hn : is.length ≤ 8) : okC 8 (.lst (is.map Itm.d)) ∧ okT 8 (cp (.lst (is.map Itm.d))) ∧ cnt (cp (.lst (is.map Itm.d))) < 2 ^ 20 ∧ okR (.lst (is.map Itm.d)) ∧ okR (markT (cp (.lst (is.map Itm.d)))).data := by
  obtain ⟨a1, a2, a3, a4⟩ := items_facts h
  have e := cp_items is
  have key := tree_okR (t := cp (.lst (is.map Itm.d))) (by rw [e]; exact a1) (by rw [e]; simp only [szT, cnt]; omega) (by rw [e]; simp only [cnt]; omega) (by rw [e]; simp only [dpT]; omega)
  rw [cp_data] at key
  refine ⟨⟨by simp; omega, fun d m => ?_⟩, ?_, by rw [e]; simp only [cnt]; omega, key.1, key.2⟩
  · obtain ⟨i, hi, rfl⟩ := List.mem_map.mp m
    have := h i hi
    cases i with
    | L l => exact okC_ints this.1
    | R q => exact okC_rat
  · rw [e]
    refine ⟨by simp; omega, fun t m => ?_⟩
    obtain ⟨i, hi, rfl⟩ := List.mem_map.mp m
    have := h i hi
    cases i with
    | L l => exact okT_ints this.1
    | R q => exact okT_rat
theorem addP_comm : ∀ l m : List Int, addP l m = addP m l
  | [], [] => rfl
  | [], b :: m => rfl
  | a :: l, [] => rfl
  | a :: l, b :: m => by rw [addP, addP, addP_comm l m, Int.add_comm]
theorem rg_get {n i : Nat} {d : DD} (h : (rgD 0 1 n)[i]? = some d) : d = .int i ∧ i < n := by
  unfold rgD at h
  rw [List.getElem?_map] at h
  by_cases hi : i < n
  · rw [List.getElem?_range hi] at h
    simp at h
    exact ⟨h.symm, hi⟩
  · rw [List.getElem?_eq_none (by simpa using hi)] at h
    cases h
theorem evalR_qb2 {A B : Nat} {x : Rat} (hx : Qb B x) {l : List Int} (sl : ∀ c ∈ l, Sm A c) : Qb ((A + B + 1) * l.length + 1) (evalR l x) := by
  rw [← partsP_eval]
  obtain ⟨h1, _⟩ := hA_bd hx sl
  refine Qb.of ?_ ?_ (partsP_ne l x)
  · unfold partsP
    split
    · exact Nat.pow_pos (by decide)
    · exact h1.mono (by omega)
  · rw [partsP_den]
    refine (hx.d.pow _).mono ?_
    have := Nat.mul_le_mul (show B ≤ A + B + 1 by omega) (show l.length - 1 ≤ l.length by omega)
    omega
theorem mulG_one : ∀ (l pre : List Int), mulG [1] pre.length l (pre ++ List.replicate l.length 0) = pre ++ l
  | [], pre => by simp [mulG]
  | a :: l, pre => by
    have e : rowP a pre.length [1] (pre ++ List.replicate (a :: l).length 0) = (pre ++ [a]) ++ List.replicate l.length 0 := by
      simp [rowP, bump, List.replicate_succ, List.set_append]
    have ih := mulG_one l (pre ++ [a])
    rw [mulG, e]
    rw [List.length_append] at ih
    simp only [List.length_cons, List.length_nil, Nat.zero_add] at ih
    rw [ih]
    simp
theorem mulP_one (l : List Int) : mulP l [1] = l := by
  have := mulG_one l []
  unfold mulP
  simpa using this
theorem addP_nil (l : List Int) : addP l [] = l := by cases l <;> rfl
theorem nil_addP (l : List Int) : addP [] l = l := rfl
theorem PL.tail {l : List Int} (h : PL l) {n : Int} (h0 : 0 ≤ n) (h1 : n < 5) : PL (l.take 6 ++ [n - 2, 1]) := ⟨by simp; omega, app_bd (take_bd h.b) fun c m => by
  simp at m
  omega, by simp⟩
theorem Itm.ok_PL {l : List Int} (h : PL l) : Itm.ok (.L l) := ⟨by have := h.n; omega, h.b.sm (by decide)⟩
end DL

namespace DL
open PySem PySem.Spec PyProof.Rows L2
/-! ### a law's end -/
/-- the script: a list of the heap, or one of the written part -/
def scr (b : Bool) (ns : List Int) : DD := if b = true then .lst (ns.map .int) else .klst (ns.map .int)
@[simp] theorem scr_t (ns : List Int) : scr true ns = .lst (ns.map .int) := rfl
@[simp] theorem scr_f (ns : List Int) : scr false ns = .klst (ns.map .int) := rfl
def cLawS : Ctr := fun as Q => ∃ (ns : List Int) (b : Bool), as = [.dat (scr b ns)] ∧ (∀ z ∈ ns, Sm 1048576 z) ∧ ns.length ≤ 63 ∧ Q (.dat (.bl true)) as
theorem rq_ints {K : PySem.W.Frag} {G : Hp} : ∀ ns : List Int, RqA K G (ns.map V.int) (ns.map DD.int)
  | [] => .nil
  | i :: ns => .cons (.int i) (rq_ints ns)
section
variable {P : Program} {w : World} {K : PySem.W.Frag} {mg mb : Str → Option Value} {k : Nat} {fa a : Addr} {fd : FuncData} {x : Str} {F : Ctr}
/-- the promise at a heap that tracks the script at most -/
theorem at_script {H : Hp} {ns : List Int} (hF : ∀ as Q, cLawS as Q → F as Q) (hz : ∀ z ∈ ns, Builtin.Int.intBits z ≤ 1048576) (hn : ns.length ≤ 63) (hS : SqL K H a (ns.map V.int)) (E : XK) : spD K F [.ref a] H (fun v _ => v = .bl true) E := by
  have key : ∀ b, Rq K H (.ref a) (scr b ns) → spD K F [.ref a] H (fun v _ => v = .bl true) E := fun b r =>
    ⟨H, [.dat (scr b ns)], fun _ => [], fun r _ => r = .dat (.bl true), ⟨rfl, fun _ _ z => z, fun i t e => by
      cases i with
      | zero =>
        have : t = .dat (scr b ns) := by simpa using e.symm
        subst this
        exact ⟨.ref a, rfl, .dat r⟩
      | succ i => simp at e, fun _ _ => rfl, fun _ _ _ z => nomatch z⟩, hF _ _ ⟨ns, b, rfl, fun z m => Sm.of_bits (hz z m), hn, rfl⟩, fun r as' v G' H' fp' fr _ _ _ o _ _ e => by
        subst e
        exact o.dat_inv.1.bl_inv⟩
  rcases hS with h | h
  · exact key true (.lst h (rq_ints ns))
  · exact key false (.klst (.inr h) (rq_ints ns))
theorem call_at {H : Hp} {s1 : Shared} (KX : K.In s1.heap) (hns : s1.heap.Ns mainGlobals mg) (hb : s1.heap.Ns builtinsNs mb) (hbb : ∀ y : Str, y ≠ "__name__" → mb y = bootBuiltins y) (hlim : s1.heap.NoLimit) (hg : s1.gens = #[])
    (hl : ∀ (o : Obj), s1.heap.get? a = some o → ∀ es ep, o.data ≠ .dict es ep) (hr : RoomG k callerA)
    (HF : ∀ base : Heap, K.In base → base.Ns mainGlobals mg → FnG P w K mg base CX0 k fa fd [x] (spD K F)) (hbind : ∀ (s : Shared) (u : Value), BindsTo s fd ⟨[u], []⟩ [(x, u)])
    (hO : ∀ b, H b = none ∨ b = a ∧ K.lookup a = none ∧ ∃ o xs, H b = some (.frz o (.lst xs))) (hok : HOk P w H s1.heap) (hsp : spD K F [.ref a] H (fun v _ => v = .bl true) fun _ _ _ => False) :
    codeAny (model P w) callerA (.call (.ref fa) ⟨[.ref a], []⟩) (fun r s' => r = .ok (.ret (.bool true)) ∧ OldK s1.heap s'.heap ∧ s'.os = s1.os ∧ AllBare s'.gens) s1 := by
  have away : ∀ {b : Addr} {o : Obj}, s1.heap.get? b = some o → H b = none → (hidT s1.heap H).get? b = some o := fun e z => hidT_get e z
  have dictN : ∀ {b : Addr} {o : Obj} {es : Array DictEntry} {ep : Nat}, s1.heap.get? b = some o → o.data = .dict es ep → H b = none := fun {b o es ep} e d => by
    rcases hO b with z | ⟨rfl, _, _⟩
    · exact z
    · exact absurd d (hl o e es ep)
  have names : ∀ {b : Addr} {m : Str → Option Value}, s1.heap.Ns b m → (hidT s1.heap H).Ns b m := fun {b m} ⟨o, es, ep, e, d, r⟩ => ⟨o, es, ep, away e (dictN e d), d, r⟩
  have inK : K.In (hidT s1.heap H) := fun b o e => away (KX b o e) (by
    rcases hO b with z | ⟨rfl, z, _⟩
    · exact z
    · rw [z] at e; cases e)
  obtain ⟨mc, l1, l2⟩ := hlim
  have mod : Mod K mg (hidT s1.heap H) := ⟨inK, names hns, ⟨mb, names hb, hbb⟩, mc, names l1, l2⟩
  have env : Env0 P w K mg (hidT s1.heap H) callerA [] s1 H := ⟨rfl, mod, fun b o e => of_hidT e, Nat.le_of_eq (hidT_size _ _), trivial, fun b m => (nomatch m), hok, .of_eq hg⟩
  have run := (HF _ inK (names hns)).run callerA [] s1 H ⟨[.ref a], []⟩ [.ref a] [.ref a] _ _ hr env (hbind s1 (.ref a)) (.cons rfl .nil) hsp
  refine codeAny_mono run fun r s2 q => ?_
  match r, q with
  | .ok (.ret u), ⟨v, H2, os, bare, un, ok2, rel, e⟩ =>
    have e' : v = .bl true := e
    subst e'
    cases rel
    refine ⟨rfl, OldK.of_keep fun b o e => ?_, os, bare⟩
    rcases hO b with z | ⟨rfl, _, ob, xs, z⟩
    · exact un.keep b o e z (fun m => nomatch m) (fun m => nomatch m)
    · obtain ⟨e1, _⟩ := hok _ _ z
      obtain ⟨e2, _⟩ := ok2 _ _ (un.frzs _ ob _ z)
      rw [e] at e1; cases e1
      exact e2
  | .ok .next, q => exact q.elim
  | .ok .brk, q => exact q.elim
  | .ok .cont, q => exact q.elim
  | .error e, q => exact q.elim
theorem fn_void {base : Heap} {ps : List Str} {f : Addr} {C : Ctr} (h : ∀ as Q, ¬ C as Q) : FnG P w K mg base CX0 k f fd ps (spD K C) :=
  ⟨fun vs H Q E ⟨G, as, fp, Qd, c, hC, _⟩ => (h _ _ hC).elim, fun A outer s H args us vs Q E _ _ _ _ ⟨G, as, fp, Qd, c, hC, _⟩ => (h _ _ hC).elim⟩
theorem walk_ofG {l : PySem.W.OpenLaw} {n : Nat} {q : Program} {loose : List Str} {XP : (Str → Option Value) → Heap → Prop} {YP : World → Heap → Prop} {d : DefRec} (hn : l.most = some n) (hn2 : n ≤ 63) (hdf : d.params.defaults = []) (hr : RoomG k callerA)
    (HF : ∀ (w : World) (mg : Str → Option Value) (fa : Addr) (h : Heap), YP w h → h.Ns mainGlobals mg → mg d.name = some (.ref fa) →
      ∃ (K : PySem.W.Frag) (fd : FuncData) (F : Ctr), K.In h ∧ (∀ (s : Shared) (u : Value), BindsTo s fd ⟨[u], []⟩ [(x, u)]) ∧ (∀ as Q, cLawS as Q → F as Q) ∧
        ∀ base : Heap, K.In base → base.Ns mainGlobals mg → FnG l.prog w K mg base CX0 k fa fd [x] (spD K F)) :
    PySem.W.WalkO q loose XP YP l.row.toRowW d [] (fun f vs => PySem.call f vs) := by
  refine Att.attach_callB hn hdf fun w s0 s1 mg mb fa o pm cd doc a vs ns G Y ho hd hcd hmg hobj hints hlen hbits hg => ?_
  obtain ⟨K, fd, F, KX, hb, hF, HG⟩ := HF w mg fa _ Y G.T.g hmg
  have rv := vals_ints hints
  have lenV := hints.length
  have size : ns.length ≤ sizeLine := Nat.le_trans hlen (Nat.le_trans hn2 (by decide))
  have nod : ∀ o : Obj, s1.heap.get? a = some o → ∀ es ep, o.data ≠ .dict es ep := fun o e es ep z => by
    rw [hobj] at e; cases e
    cases (show Data.seq vs.toArray _ = Data.dict es ep from z)
  cases hk : K.lookup a with
  | some u =>
    have e := KX a u hk
    rw [hobj] at e; cases e
    refine call_at (H := fun _ => none) KX G.T.g G.T.b G.T.builtins G.T.nolimit hg nod hr HG hb (fun b => .inl rfl) (fun b u z => by cases z) ?_
    exact at_script hF hbits (Nat.le_trans hlen hn2) (.inr ⟨_, vs.toArray, _, hk, rfl, rfl, rfl, by rw [List.size_toArray, lenV]; exact size, by simpa using rv⟩) _
  | none =>
    refine call_at (H := fun b => if b = a then some (.frz { cls := .type "list", data := .seq vs.toArray } (.lst (ns.map V.int))) else none) KX G.T.g G.T.b G.T.builtins G.T.nolimit hg nod hr HG hb (fun b => ?_) (fun b u z => ?_) ?_
    · by_cases q : b = a
      · exact .inr ⟨q, hk, _, _, if_pos q⟩
      · exact .inl (if_neg q)
    · dsimp only at z
      by_cases q : b = a
      · rw [if_pos q] at z
        cases z
        subst q
        exact ⟨hobj, by rw [List.length_map]; exact size, vs, _, rv, hobj⟩
      · rw [if_neg q] at z; cases z
    · exact at_script hF hbits (Nat.le_trans hlen hn2) (.inl (.inr ⟨_, if_pos rfl⟩)) _
end
end DL

namespace DL
open PySem PySem.Spec PyProof.Rows L2
/-! a, b = x, y with a cell among the names: a tuple is made and taken apart, the trees stay owned -/
theorem s_un2 {X : Cx} {io : List Nat} {i j : Nat} {x y : Str} {a b : Expr} {fs : FSs} {px py pt pos : Pos} {kt k2 : Nat} {pt2 : Pos} (hc : X.calm = true) (hN : X.N.Nodup) (h : PDs' X io [a, b] fs) (hi : X.N[i]? = some x := by rfl) (hj : X.N[j]? = some y := by rfl)
    (hx : Loc X.env.scope x := by first | exact Or.inl rfl | exact Or.inr rfl) (hy : Loc X.env.scope y := by first | exact Or.inl rfl | exact Or.inr rfl)
    (fx : X.fn x = true ∨ X.env.scope.names.lookup x = some .local := by first | exact .inl rfl | exact .inr rfl) (fy : X.fn y = true ∨ X.env.scope.names.lookup y = some .local := by first | exact .inl rfl | exact .inr rfl)
    (hs : swapsWithSole [.Tuple [.Name x px, .Name y py] kt pt] (.Tuple [a, b] k2 pt2) pos.line X.env = pure false := by rfl) (hw : swappedStores [.Tuple [.Name x px, .Name y py] kt pt] (.Tuple [a, b] k2 pt2) X.env = pure none := by rfl)
    (h1 : (assignEach [.Tuple [.Name x px, .Name y py] kt pt] X.env).map (·.2) = [assign (.Tuple [.Name x px, .Name y py] kt pt) X.env] := by rfl)
    (c1 : (assignEach [.Name x px, .Name y py] X.env).map (·.2) = assign (.Name x px) X.env :: (assignEach [.Name y py] X.env).map (·.2) := by rfl) (c2 : (assignEach [.Name y py] X.env).map (·.2) = assign (.Name y py) X.env :: (assignEach [] X.env).map (·.2) := by rfl)
    (hn : (assignEach [.Name x px, .Name y py] X.env).length = 2 := by rfl) (hst : (assignEach [.Name x px, .Name y py] X.env).findIdx? (·.1) = none := by rfl) :
    PDs X io (.Assign [.Tuple [.Name x px, .Name y py] kt pt] (.Tuple [a, b] k2 pt2) pos) (fPar io i j fs) := by
  obtain ⟨ta, a1, a2⟩ := h
  refine ⟨_, ps_asg (pe_tup a1) (pg_tup hc (pgs_cons (pg_name hN hi hx fx) (pgs_cons (pg_name hN hj hy fy) pgs_nil c2) c1) hn hst) hs hw h1, fun B G H σ ρ fp Dd Dh hB R hf s => ?_⟩
  refine a2 B G H σ ρ fp _ _ hB R hf fun ts ρ1 vs G1 H1 fp1 fr n os t1 t2 ⟨t, u, et, hi', hj', q⟩ => ?_
  subst et
  refine ⟨by rw [os.length]; show 2 ≤ sizeLine; decide, fun p hp => ?_⟩
  obtain ⟨v, w, f1, f2, rfl, o1, o2, d12, in1, in2⟩ := os.two
  have n2 := n.trans (Nxt.laid n.rp (o := .tup [v, w]) hp)
  have hb := R.base t2
  have up : ∀ {z : V} {e : SV} {f : List Addr}, OT X.K G1 H1 z e f → OT X.K G1 (upd H1 p (.tup [v, w])) z e f := fun o => o.mono (Sub.refl _) (fun b m e g => by
    rw [upd_ne (show b ≠ p from fun z => by rw [z, hp] at g; cases g)]; exact g) fun b m => (o.here b m).2
  have R1 := n2.rp.put (i := i) (by rw [hB]; exact hi') (up o1) (fun c m => t1 c (in1 c m)) (fun c m => hb c (in1 c m))
  have R2 := R1.put (i := j) (by rw [hB]; exact hj') (up o2) (out_put (fun c m => t1 c (in2 c m)) d12) (fun c m => hb c (in2 c m))
  exact ⟨p, [v, w], rfl, .inl (.inl upd_same), rfl, v, [w], rfl, w, [], rfl, rfl, s.nx _ _ _ _ _ R2 q⟩
end DL

namespace DL
open PySem PySem.Spec PyProof.Rows L2
/-! ### sum, max of a list of ints -/
theorem RqA.ints_inv {K : PySem.W.Frag} {G : Hp} : ∀ {ns : List Int} {vs : List V}, RqA K G vs (ns.map DD.int) → vs = ns.map V.int
  | [], _, h => by cases h; rfl
  | n :: ns, _, h => by
    cases h with
    | cons a b => rw [a.int_inv, RqA.ints_inv b]; rfl
@[simp] def oSum : OpN := fun ds P => ∃ ns : List Int, ds = [.lst (ns.map .int)] ∧ P (.int ns.sum)
theorem p_sum {X : Cx} {io : List Nat} {p pos : Pos} {e : Expr} {fos : FOs} (hc : X.calm = true) (hm : X.mg "sum" = none) (ha : PDos X io [e] fos) (hg : Gl X "sum" := by rfl) (he : starEach [e] X.env = (false, eval e X.env) :: starEach [] X.env := by rfl) : PDv X io (.Call (.Name "sum" p) [e] [] pos) (fCB oSum fos) :=
  p_cb (cr_sum hc) (fun H xs ds P Q hx h k => by
    obtain ⟨ns, rfl, q⟩ := h
    obtain ⟨x, rfl, r⟩ := hx.one
    obtain ⟨a, ys, rfl, h, r⟩ := r.lst_inv
    have := r.ints_inv
    subst this
    exact ⟨a, ns, rfl, .inl h, k _ _ q (.int _)⟩) hm (by decide +kernel) ha hg (by decide) (by decide) he
/-! ### an expression that only looks: all that is held stands still meanwhile -/
def frzR (ρ : Rho) : Rho := ρ.map (Option.map fun t => SV.dat t.data)
@[simp] theorem frzR_nil : frzR [] = [] := rfl
@[simp] theorem frzR_some (t : SV) (ρ : Rho) : frzR (some t :: ρ) = some (.dat t.data) :: frzR ρ := rfl
@[simp] theorem frzR_none (ρ : Rho) : frzR (none :: ρ) = none :: frzR ρ := rfl
mutual
/-- nothing within is a list or an instance that is only told as data -/
def flatT : SV → Bool
  | .dat d => noL d
  | .own ts => flatTs ts
  | .ob _ fs => flatTf fs
  | .tp ts => flatTs ts
  | .ex _ _ _ _ => false
def flatTs : List SV → Bool
  | [] => true
  | t :: r => flatT t && flatTs r
def flatTf : List (Str × SV) → Bool
  | [] => true
  | (_, t) :: r => flatT t && flatTf r
end
theorem flatTs_all : ∀ {ts : List SV}, (∀ t ∈ ts, flatT t = true) → flatTs ts = true
  | [], _ => rfl
  | t :: r, h => by rw [flatTs, h t List.mem_cons_self, flatTs_all fun x m => h x (List.mem_cons_of_mem _ m)]; rfl
mutual
theorem Rq.noL {K : PySem.W.Frag} {G F : Hp} (tt : ∀ a xs, SqT K G a xs → SqT K F a xs) : ∀ {v : V} {d : DD}, Rq K G v d → DL.noL d = true → Rq K F v d
  | _, _, .non, _ => .non
  | _, _, .bl b, _ => .bl b
  | _, _, .int i, _ => .int i
  | _, _, .str x, _ => .str x
  | _, _, .tup h a, l => .tup (tt _ _ h) (RqA.noL tt a (by simpa only [DL.noL] using l))
  | _, _, .opq _, l => nomatch (show false = true from l)
  | _, _, .exc _ _, l => nomatch (show false = true from l)
  | _, _, .dct _ _, l => nomatch (show false = true from l)
  | _, _, .lst _ _, l => nomatch (show false = true from l)
  | _, _, .obj _ _, l => nomatch (show false = true from l)
  | _, _, .at_ _, l => nomatch (show false = true from l)
  | _, _, .klst _ _, l => nomatch (show false = true from l)
theorem RqA.noL {K : PySem.W.Frag} {G F : Hp} (tt : ∀ a xs, SqT K G a xs → SqT K F a xs) : ∀ {v : List V} {d : List DD}, RqA K G v d → DL.noLs d = true → RqA K F v d
  | _, _, .nil, _ => .nil
  | _, _, .cons a b, l => by
    rw [DL.noLs, Bool.and_eq_true] at l
    exact .cons (Rq.noL tt a l.1) (RqA.noL tt b l.2)
end
mutual
theorem OT.flat {K : PySem.W.Frag} {G F H : Hp} (tt : ∀ a xs, SqT K G a xs → SqT K F a xs) : ∀ {v : V} {t : SV} {fp : List Addr}, OT K G H v t fp → flatT t = true → (∀ a ∈ fp, F a = none) → OT K F H v t fp
  | _, _, _, .dat r, l, _ => .dat (r.noL tt (by simpa only [flatT] using l))
  | _, _, _, .own h g ts n, l, z => .own h (z _ List.mem_cons_self) (OTs.flat tt ts (by simpa only [flatT] using l) fun a m => z a (List.mem_cons_of_mem _ m)) n
  | _, _, _, .ob h hd g gd ts ne n nd, l, z => .ob h hd (z _ List.mem_cons_self) (z _ (List.mem_cons_of_mem _ List.mem_cons_self)) (OTf.flat tt ts (by simpa only [flatT] using l) fun a m => z a (List.mem_cons_of_mem _ (List.mem_cons_of_mem _ m))) ne n nd
  | _, _, _, .tp h ts, l, z => .tp (tt _ _ h) (OTs.flat tt ts (by simpa only [flatT] using l) z)
  | _, _, _, .ex _ _, l, _ => nomatch (show false = true from l)
theorem OTs.flat {K : PySem.W.Frag} {G F H : Hp} (tt : ∀ a xs, SqT K G a xs → SqT K F a xs) : ∀ {v : List V} {t : List SV} {fp : List Addr}, OTs K G H v t fp → flatTs t = true → (∀ a ∈ fp, F a = none) → OTs K F H v t fp
  | _, _, _, .nil, _, _ => .nil
  | _, _, _, .cons a b d, l, z => by
    rw [flatTs, Bool.and_eq_true] at l
    exact .cons (OT.flat tt a l.1 fun x m => z x (List.mem_append_left _ m)) (OTs.flat tt b l.2 fun x m => z x (List.mem_append_right _ m)) d
theorem OTf.flat {K : PySem.W.Frag} {G F H : Hp} (tt : ∀ a xs, SqT K G a xs → SqT K F a xs) : ∀ {v : List (Str × V)} {t : List (Str × SV)} {fp : List Addr}, OTf K G H v t fp → flatTf t = true → (∀ a ∈ fp, F a = none) → OTf K F H v t fp
  | _, _, _, .nil, _, _ => .nil
  | _, _, _, .cons a b d, l, z => by
    rw [flatTf, Bool.and_eq_true] at l
    exact .cons (OT.flat tt a l.1 fun x m => z x (List.mem_append_left _ m)) (OTf.flat tt b l.2 fun x m => z x (List.mem_append_right _ m)) d
end
/-- what is held by one place is a list, an instance, or what belongs to it -/
def HO.fix : HO → Bool
  | .lst _ => true
  | .ins _ _ _ => true
  | .own _ => true
  | _ => false
mutual
theorem OT.kind {K : PySem.W.Frag} {G H : Hp} : ∀ {v : V} {t : SV} {fp : List Addr}, OT K G H v t fp → ∀ a ∈ fp, ∃ o, H a = some o ∧ HO.fix o = true
  | _, _, _, .dat _, a, m => by cases m
  | _, _, _, .own h g ts _, a, m => by
    rcases List.mem_cons.mp m with e | m
    · subst e; exact ⟨_, h, rfl⟩
    · exact OTs.kind ts a m
  | _, _, _, .ob h hd g gd ts _ _ _, a, m => by
    rcases List.mem_cons.mp m with e | m
    · subst e; exact ⟨_, h, rfl⟩
    · rcases List.mem_cons.mp m with e | m
      · subst e; exact ⟨_, hd, rfl⟩
      · exact OTf.kind ts a m
  | _, _, _, .tp h ts, a, m => OTs.kind ts a m
  | _, _, _, .ex h t, a, m => OT.kind t a m
theorem OTs.kind {K : PySem.W.Frag} {G H : Hp} : ∀ {v : List V} {t : List SV} {fp : List Addr}, OTs K G H v t fp → ∀ a ∈ fp, ∃ o, H a = some o ∧ HO.fix o = true
  | _, _, _, .nil, a, m => by cases m
  | _, _, _, .cons x y _, a, m => (List.mem_append.mp m).elim (OT.kind x a) (OTs.kind y a)
theorem OTf.kind {K : PySem.W.Frag} {G H : Hp} : ∀ {v : List (Str × V)} {t : List (Str × SV)} {fp : List Addr}, OTf K G H v t fp → ∀ a ∈ fp, ∃ o, H a = some o ∧ HO.fix o = true
  | _, _, _, .nil, a, m => by cases m
  | _, _, _, .cons x y _, a, m => (List.mem_append.mp m).elim (OT.kind x a) (OTf.kind y a)
end
@[simp] def fFrz (fe : FE) : FE := fun ρ Q => fe (frzR ρ) fun r ρ' => ρ' = frzR ρ ∧ flatT r = true ∧ Q r ρ
theorem frz_get {ρ : Rho} {i : Nat} {t : SV} (h : (frzR ρ)[i]? = some (some t)) : ∃ u, ρ[i]? = some (some u) ∧ t = .dat u.data := by
  unfold frzR at h
  rw [List.getElem?_map] at h
  cases e : ρ[i]? with
  | none => rw [e] at h; cases h
  | some z =>
    rw [e] at h
    cases z with
    | none => simp at h
    | some u => simp at h; exact ⟨u, rfl, h.symm⟩
theorem frz_dat {ρ : Rho} {i : Nat} {u : SV} (h : ρ[i]? = some (some u)) : (frzR ρ)[i]? = some (some (.dat u.data)) := by
  unfold frzR
  rw [List.getElem?_map, h]
  rfl
/-- a run at frozen slots: nothing that is held changes -/
def DF (K : PySem.W.Frag) (io : List Nat) (te : TE) (fe : FE) : Prop := ∀ (B : Bs) G H σ ρ fp (Qd : SV → Prop) (Q : VK), B.io = io → Rp K B G H σ ρ fp → (fe (frzR ρ) fun r ρ' => ρ' = frzR ρ ∧ flatT r = true ∧ Qd r) →
  (∀ r v G' H' fr, Nxt K B σ G H fp G' H' ρ fp → (∀ a o, H a = some o → H' a = some o) → OT K G' H' v r fr → (∀ a ∈ fr, ¬ In fp a) → (∀ a ∈ fr, H a = none) → flatT r = true → Qd r → Q v H') → te σ H Q
theorem frz_core {K : PySem.W.Frag} {io : List Nat} {te : TE} {fe : FE} (h2 : DE K io te fe) : DF K io te fe := fun B G H σ ρ fp Qd Q hB R hf k => by
  classical
  let S : Hp := fun a => if In fp a then H a else G a
  have s1 : ∀ a, In fp a → S a = H a := fun a m => if_pos m
  have s2 : ∀ a, ¬ In fp a → S a = G a := fun a m => if_neg m
  have gs : Sub G S := fun a o e => by
    by_cases m : In fp a
    · rw [(R.co.here m).2] at e; cases e
    · rw [s2 a m]; exact e
  have sh : Sub S H := fun a o e => by
    by_cases m : In fp a
    · rw [s1 a m] at e; exact e
    · rw [s2 a m] at e; exact R.co.sub a o e
  have noIn : ∀ a, ¬ In (fun _ => ([] : List Addr)) a := fun a ⟨_, m⟩ => by cases m
  have co : Co K S H σ (frzR ρ) (fun _ => []) := ⟨by rw [R.co.len]; simp [frzR], sh, fun i t e => by
    obtain ⟨u, e1, rfl⟩ := frz_get e
    obtain ⟨v, e2, ot⟩ := R.co.slot i u e1
    exact ⟨v, e2, .dat (ot.sealed gs fun a m o q => by rw [s1 a ⟨i, m⟩]; exact q)⟩, fun _ _ => rfl, fun _ _ _ m => nomatch m⟩
  let B2 : Bs := ⟨B.vs, B.as, B.io, S, H, fun _ => [], S⟩
  have R2 : Rp K B2 S H σ (frzR ρ) (fun _ => []) := ⟨co, Stp.refl _ _, fun a m => absurd m (noIn a), fun i m => by
    obtain ⟨v, t, e1, e2, e3⟩ := R.io i m
    exact ⟨v, _, e1, e2, frz_dat e3⟩, Sub.refl _⟩
  refine h2 B2 S H σ (frzR ρ) (fun _ => []) _ Q hB R2 hf fun r ρ' v G' H' fp' fr n ot t1 t2 ⟨er, fl, q⟩ => ?_
  let G2 : Hp := fun a => if In fp a then none else G' a
  have g1 : ∀ a, In fp a → G2 a = none := fun a m => if_pos m
  have g2 : ∀ a, ¬ In fp a → G2 a = G' a := fun a m => if_neg m
  have fresh : ∀ a ∈ fr, H a = none := fun a m => (t2 a m).elim id fun z => absurd z (noIn a)
  have outF : ∀ a ∈ fr, ¬ In fp a := fun a m z => by
    obtain ⟨⟨o, e⟩, _⟩ := R.co.here z
    rw [fresh a m] at e; cases e
  have keep : ∀ a o, H a = some o → H' a = some o := fun a o e => n.st.keep a o (noIn a) e
  have gg : Sub G G2 := fun a o e => by
    have m : ¬ In fp a := fun m => by rw [(R.co.here m).2] at e; cases e
    rw [g2 a m]
    exact n.st.ex a o (gs a o e)
  have sub2 : Sub G2 H' := fun a o e => by
    by_cases m : In fp a
    · rw [g1 a m] at e; cases e
    · rw [g2 a m] at e; exact n.rp.co.sub a o e
  have st : Stp (In fp) G H G2 H' := ⟨gg, fun a o _ e => keep a o e, fun a o m e g => by
    rw [g2 a m]
    exact n.st.hid a o (noIn a) e (by rw [s2 a m]; exact g)⟩
  have tt : ∀ a xs, SqT K G' a xs → SqT K G2 a xs := fun a xs h => by
    rcases h with h | h
    · refine .inl ?_
      have ne : ¬ In fp a := fun m => by
        obtain ⟨i, m'⟩ := m
        cases e : ρ[i]? with
        | none => rw [R.co.nil i (fun t q => by rw [e] at q; cases q)] at m'; cases m'
        | some z =>
          cases z with
          | none => rw [R.co.nil i (fun t q => by rw [e] at q; cases q)] at m'; cases m'
          | some u =>
            obtain ⟨w, _, ot0⟩ := R.co.slot i u e
            obtain ⟨o, h1, h3⟩ := ot0.kind a m'
            have g0 : G' a = some o := n.st.ex a o (by rw [s1 a ⟨i, m'⟩]; exact h1)
            rcases h with h | ⟨o2, h⟩ <;> (rw [g0] at h; injection h with h; subst h; cases h3)
      rcases h with h | ⟨o2, h⟩
      · exact .inl (by rw [g2 a ne]; exact h)
      · exact .inr ⟨o2, by rw [g2 a ne]; exact h⟩
    · exact .inr h
  exact k r v G2 H' fr ⟨⟨R.co.grow gg (fun a _ o e => keep a o e) g1 sub2, R.stp.trans st R.own, R.own, R.io, R.lo.trans gg⟩, st, fun _ m => .inl m⟩ keep
    (ot.flat tt fl fun a m => by rw [g2 a (outF a m)]; exact (ot.here a m).2) outF fresh fl q
theorem e_frz {X : Cx} {io : List Nat} {e : Expr} {fe : FE} (h : PDe X io e fe) : PDe X io e (fFrz fe) := by
  obtain ⟨te, h1, h2⟩ := h
  refine ⟨te, h1, fun B G H σ ρ fp Qd Q hB R hf k => ?_⟩
  exact frz_core h2 B G H σ ρ fp (fun r => Qd r ρ) Q hB R hf fun r v G' H' fr n _ ot o1 o2 _ q => k r ρ v G' H' fp fr n ot o1 (fun a m => .inl (o2 a m)) q
@[simp] theorem flat_oI (l : List Int) : flatT (oI l) = true := flatTs_all fun t m => by
  obtain ⟨a, _, rfl⟩ := List.mem_map.mp m
  rfl
end DL

namespace DL
open PySem PySem.Spec PyProof.Rows L2
/-! ### instances of own classes -/
theorem RoomG.one {k : Nat} {A : Around} (r : RoomG (k + 1) A) : RoomG k A.in1 := ⟨r.r.in1, r.g⟩
theorem guards_make {A : Around} {C : Addr} {us : List Value} {kw : List (Str × Value)} (h : A.guards = some []) : (A.under (.builtin "type.__call__" ⟨.ref C :: us, kw⟩)).guards = some [] := by
  first | exact h | (simp [Around.under, Code.weight, Code.isCreation, Code.isGuard, Code.isCaller, Code.frames, Code.isFrame, guardIds, h])
theorem RoomG.make {k : Nat} {A : Around} (r : RoomG (k + 1) A) (C : Addr) (us : List Value) (kw : List (Str × Value)) : RoomG k (A.under (.builtin "type.__call__" ⟨.ref C :: us, kw⟩)) := ⟨r.r.make C us kw, guards_make r.g⟩
section
variable {X : Cx} {CX : CXT} {k : Nat} {C p g a dx f : Addr} {fs : List (Str × V)} {x fld : Str} {fd : FuncData} {ps : List Str} {sp : Sp} {E : XK} {e : Expr} {es : List Expr} {pos pn : Pos} {ta : TE} {t : TA}
theorem getprop_G {pins : List (Addr × Obj)} {σ : L2.St} {H : Hp} {s : Shared} {Q : VK} {b : Bool} {E' : Value → Shared → Prop} (I : Inv X pins σ H s) (ha : H a = some (.ins C dx fs)) (hc : Cls X.K C) (hp : PropOf X.K C fld p g)
    (F : FnG X.prog X.w X.K X.mg X.base CX k g fd ps sp) (hr : RoomG (k + 1) X.A) (hb : Binds X.K fd ps []) (hx : Passes CX X.nox E) (q : sp [.ref a] H Q E) :
    wpAny (model X.prog X.w) X.A (getAttr (.ref a) fld b) (EP X pins σ Q) E' s := by
  obtain ⟨m1, O, _, _, _, _⟩ := ins_get I.hok ha
  obtain ⟨od, J, _⟩ := O.look
  obtain ⟨rest, hrc⟩ := hp.rec_
  have I2 := I.tok (s.toks + 1)
  have ln : ([Value.ref a] ++ []).length = ps.length := by
    have := F.len _ _ _ _ q
    simpa using this
  have cl : (PySem.W.clsIn X.K C).isSome = true := by
    obtain ⟨cd, hcd, _⟩ := PySem.W.any_some hc.hd
    rw [hcd] <;> rfl
  have bd := hb { s with toks := s.toks + 1 } [.ref a] I2.kIn ln
  refine PySem.W.get_bind I.kIn J (PySem.W.plainGet_of (hc.get fld)).1 (PySem.W.findObj_data cl hp.at_ hp.get hp.tak) (PySem.W.plainGet_of (hc.get fld)).2 (wpAny_call (PySem.W.prop_get (s := { s with toks := s.toks + 1 }) I.kIn hrc ?_))
  refine codeAny_mono (F.run X.A.in1 X.stack { s with toks := s.toks + 1 } H ⟨[.ref a], []⟩ [.ref a] [.ref a] Q E hr.one I2.env0.in1 bd (.cons rfl .nil) q) fun r s' hq => ?_
  cases r with
  | error er => exact (hx pins σ H { s with toks := s.toks + 1 } er s' (I2.wish _) hq).elim
  | ok fl =>
    cases fl with
    | next => exact hq.elim
    | brk => exact hq.elim
    | cont => exact hq.elim
    | ret u =>
      obtain ⟨v, H', I3, rv, q3⟩ := I2.after hq
      show wpAny _ _ (handedOut u) _ _ _
      rw [PySem.W.handedOut_of (handed_of rv)] <;> exact wpAny_pure ⟨v, H', I3, rv, q3⟩
theorem pe_propG (he : PE X e ta) (hc : Cls X.K C) (hp : PropOf X.K C fld p g) (F : FnG X.prog X.w X.K X.mg X.base CX k g fd ps sp) (hr : RoomG (k + 1) X.A) (hb : Binds X.K fd ps []) (hx : Passes CX X.nox E)
    (hab : attributeBase e fld X.env (eval e X.env) = eval e X.env) : PE X (.Attribute e fld pos) (tProp C sp [] E ta) := ⟨fun pins s σ H Q I h => by
  refine attr_of hab (thn (he.run pins s σ H _ I h) fun u s1 ⟨y, H1, I1, ry, b, dx, fs, ey, eb, q⟩ => ?_)
  subst ey
  cases ry
  exact getprop_G I1 eb hc hp F hr hb hx q⟩
theorem run_makeG {pins : List (Addr × Obj)} {σ : L2.St} {H : Hp} {s : Shared} {Q : VK} {us : List Value} {vs : List V} (M : Mk X.K C f) (F : FnG X.prog X.w X.K X.mg X.base CX k f fd ps sp) (hr : RoomG (k + 1) X.A) (hb : Binds X.K fd ps [])
    (hx : Passes CX X E) (I : Inv X pins σ H s) (r : Vals vs us) (h : ∀ x dx, H x = none → H dx = none → dx ≠ x → sp (.ref x :: vs) (upd (upd H dx (.own x)) x (.ins C dx [])) (fun v H2 => v = .non ∧ Q (.ref x) H2) E) :
    wpAny (model X.prog X.w) X.A (call (.ref C) us) (EP X pins σ Q) X.xe s := by
  have q := h (s.heap.objs.size + 1) s.heap.objs.size (I.hok.fresh (Nat.le_succ _)) (I.hok.fresh (Nat.le_refl _)) (Nat.ne_of_lt (Nat.lt_succ_self _))
  have J := Inv.made (C := C) I
  have rs : Vals (V.ref (s.heap.objs.size + 1) :: vs) (Value.ref (s.heap.objs.size + 1) :: us) := .cons rfl r
  have ln : (Value.ref (s.heap.objs.size + 1) :: us ++ []).length = ps.length := by
    rw [List.append_nil, ← rs.length]
    exact F.len _ _ _ _ q
  have bd := hb _ (Value.ref (s.heap.objs.size + 1) :: us) J.kIn ln
  rw [List.append_nil] at bd
  refine wpAny_call (make_map (f := f) I.kIn M.makes M.init (beq_iff_eq.mp M.fn) (codeAny_mono (F.run _ X.stack _ _ ⟨Value.ref (s.heap.objs.size + 1) :: us, []⟩ (Value.ref (s.heap.objs.size + 1) :: us) _ _ E (hr.make C us [])
    (J.env0.make C us []) bd rs q) fun r s' hq => ?_))
  cases r with
  | error er => exact hx pins σ _ _ er s' J hq
  | ok fl =>
    cases fl with
    | next => exact hq.elim
    | brk => exact hq.elim
    | cont => exact hq.elim
    | ret u =>
      obtain ⟨v, H', I3, rv, ev, q3⟩ := J.after hq
      subst ev
      exact ⟨rv, ⟨V.ref (s.heap.objs.size + 1), H', I3, rfl, q3⟩⟩
def tMakeG (C : Addr) (sp : Sp) (E : XK) (t : TA) : TE := fun σ H Q => t σ H fun vs H1 => ∀ x dx, H1 x = none → H1 dx = none → dx ≠ x → sp (.ref x :: vs) (upd (upd H1 dx (.own x)) x (.ins C dx [])) (fun v H2 => v = .non ∧ Q (.ref x) H2) E
theorem pe_makeG (M : Mk X.K C f) (F : FnG X.prog X.w X.K X.mg X.base CX k f fd ps sp) (hr : RoomG (k + 1) X.A) (hg : Gl X x) (hm : X.mg x = some (.ref C)) (hb : Binds X.K fd ps []) (hx : Passes CX X E)
    (ha : PA X (e :: es) t) (hdb : (x == ("__debug__" : Str)) = false := by decide) (he : starEach (e :: es) X.env = (false, eval e X.env) :: starEach es X.env := by rfl) (hpl : (backTo pos (starEach es X.env)).any (·.1) = false := by rfl) :
    PE X (.Call (.Name x pn) (e :: es) [] pos) (tMakeG C sp E t) := ⟨fun pins s σ H Q I h => by
  refine wpAny_Call_Name_kw (ld_glob I hg hm ?_ hdb)
  refine PySem.W.callWith_K (h₀ := X.base) I.ok.mod.kin M.kp (thn (ha.run pos pins s σ H _ I h) fun us s1 ⟨vs, H1, I1, r, q⟩ => ⟨I1.kIn, ?_⟩) he hpl
  exact run_makeG M F hr hb hx I1 r q⟩
end
/-! #### a contract at data alone -/
theorem spD_data {K : PySem.W.Frag} {B : Bs} {σ : L2.St} {G H : Hp} {ρ : Rho} {fp : Nat → List Addr} (R : Rp K B G H σ ρ fp) {vs : List V} {ds : List DD} (rq : RqA K G vs ds) {F : Ctr} {Qd : SV → List SV → Prop} {Q : VK} {E : XK} (hF : F (ds.map .dat) Qd)
    (k : ∀ r as' v G' H' fr, Nxt K B σ G H fp G' H' ρ fp → OT K G' H' v r fr → (∀ a ∈ fr, ¬ In fp a) → (∀ a ∈ fr, H a = none) → Qd r as' → Q v H') : spD K F vs H Q E := by
  refine ⟨G, ds.map .dat, fun _ => [], Qd, ⟨by simp [rq.length], R.co.sub, fun i t e => ?_, fun _ _ => rfl, fun _ _ _ m => nomatch m⟩, hF, fun r as' v G' H' fp' fr c st inn ot d1 d2 q => ?_⟩
  · rw [List.getElem?_map, List.getElem?_map] at e
    cases h : ds[i]? with
    | none => rw [h] at e; cases e
    | some d =>
      rw [h] at e
      have : SV.dat d = t := by simpa using e
      subst this
      obtain ⟨u, hu, ru⟩ := rq.get h
      exact ⟨u, by rw [List.getElem?_map, hu]; rfl, .dat ru⟩
  · have noIn : ∀ a, ¬ In (fun _ : Nat => ([] : List Addr)) a := fun a ⟨_, m⟩ => by cases m
    have fresh : ∀ a ∈ fr, H a = none := fun a m => (d2 a m).elim id fun z => absurd z (noIn a)
    have out : ∀ a ∈ fr, ¬ In fp a := fun a m z => by
      obtain ⟨⟨o, e⟩, _⟩ := R.co.here z
      rw [fresh a m] at e; cases e
    have st2 : Stp (In fp) G H G' H' := ⟨st.ex, fun a o _ e => st.keep a o (noIn a) e, fun a o _ e g => st.hid a o (noIn a) e g⟩
    refine k r as' v G' H' fr ⟨⟨R.co.grow st.ex (fun a _ o e => st.keep a o (noIn a) e) (fun a m => ?_) c.sub, R.stp.trans st2 R.own, R.own, R.io, R.lo.trans st.ex⟩, st2, fun _ m => .inl m⟩ ot out fresh q
    obtain ⟨⟨o, e⟩, g⟩ := R.co.here m
    exact st.hid a o (noIn a) e g
/-! #### e.f, a property -/
/-- the class at the address has the property, a getter of such worth -/
def Hp_ (P : Program) (w : World) (K : PySem.W.Frag) (mg : Str → Option Value) (base : Heap) (C : Addr) (x : Str) (k : Nat) (F : Ctr) : Prop :=
  ∃ p g fd, Cls K C ∧ PropOf K C x p g ∧ Binds K fd ["self"] [] ∧ FnG P w K mg base CX0 k g fd ["self"] (spD K F)
@[simp] def fProp (C : Addr) (F : Ctr) (fo : FO) : FE := fun ρ Q => fo ρ fun o ρ1 => ∃ ds, resT ρ1 o = some (.dat (.obj C ds)) ∧ F [.dat (.obj C ds)] fun r as' => Q r ρ1
theorem e_prop {X : Cx} {io : List Nat} {C : Addr} {x : Str} {k : Nat} {F : Ctr} {e : Expr} {fo : FO} {pos : Pos} (h : Hp_ X.prog X.w X.K X.mg X.base C x k F) (hr : RoomG (k + 1) X.A) (ho : PDo X io e fo) (hx : ∀ E, Passes CX0 X.nox E := by exact fun _ => pass0)
    (hab : attributeBase e x X.env (eval e X.env) = eval e X.env := by rfl) : PDe X io (.Attribute e x pos) (fProp C F fo) := by
  obtain ⟨p, g, fd, hc, hp, hb, hF⟩ := h
  obtain ⟨ta, a1, a2⟩ := ho
  refine ⟨_, pe_propG a1 hc hp hF hr hb (hx (fun _ _ _ => False)) hab, fun B G H σ ρ fp Qd Q hB R hf k => ?_⟩
  refine a2 B G H σ ρ fp _ _ hB R hf fun o ρ1 v G1 H1 fp1 n1 o1 ⟨ds, e1, q⟩ => ?_
  obtain ⟨f, ot, _⟩ := o1.tree n1.rp e1
  have rq := ot.dat_inv.1
  obtain ⟨a, dx, fs, ev, ga, _⟩ := rq.obj_inv
  subst ev
  refine ⟨a, dx, fs, rfl, n1.rp.co.sub _ _ ga, spD_data (ds := [.obj C ds]) n1.rp (.cons rq .nil) q fun r as' v G' H' fr n2 ot2 s1 s2 q2 => ?_⟩
  exact k r ρ1 v G' H' fp1 fr (n1.trans n2) ot2 s1 (fun b m => by
    by_cases z : In fp b
    · exact .inr z
    · exact .inl (n1.st.fresh z (s2 b m))) q2
/-! #### e.f, a field -/
theorem RqF.look {K : PySem.W.Frag} {G : Hp} : ∀ {fs : List (Str × V)} {ds : List (Str × DD)} {x : Str} {d : DD}, RqF K G fs ds → ds.lookup x = some d → ∃ v, fs.lookup x = some v ∧ Rq K G v d
  | _, _, x, d, .nil, e => by cases e
  | _, _, x, d, .cons (f := f) a b, e => by
    rw [List.lookup_cons] at e ⊢
    by_cases h : (x == f) = true
    · rw [h] at e ⊢
      exact ⟨_, rfl, by cases e; exact a⟩
    · have h' : (x == f) = false := by simpa using h
      rw [h'] at e ⊢
      exact RqF.look b e
@[simp] def fFld (C : Addr) (x : Str) (fo : FO) : FV := fun ρ Q => fo ρ fun o ρ1 => ∃ ds d, resT ρ1 o = some (.dat (.obj C ds)) ∧ ds.lookup x = some d ∧ Q d ρ1
theorem v_fld {X : Cx} {io : List Nat} {C : Addr} {x : Str} {e : Expr} {fo : FO} {pos : Pos} (hc : Cls X.K C) (hn : NoAttr X.K C x) (ho : PDo X io e fo) (hab : attributeBase e x X.env (eval e X.env) = eval e X.env := by rfl) : PDv X io (.Attribute e x pos) (fFld C x fo) := by
  obtain ⟨ta, a1, a2⟩ := ho
  refine ⟨_, pe_fld a1 hab, fun B G H σ ρ fp Qd Q hB R hf k => ?_⟩
  refine a2 B G H σ ρ fp _ _ hB R hf fun o ρ1 v G1 H1 fp1 n1 o1 ⟨ds, d, e1, e2, q⟩ => ?_
  obtain ⟨f, ot, _⟩ := o1.tree n1.rp e1
  obtain ⟨a, dx, fs, ev, ga, rf⟩ := ot.dat_inv.1.obj_inv
  obtain ⟨u, hu, ru⟩ := rf.look e2
  exact ⟨a, C, dx, fs, u, ev, n1.rp.co.sub _ _ ga, hc, hn, hu, k d ρ1 u G1 H1 fp1 n1 ru q⟩
/-! #### self.f = e -/
def datF (ds : List (Str × DD)) : List (Str × SV) := ds.map fun p => (p.1, .dat p.2)
def putD (x : Str) (d : DD) : List (Str × DD) → List (Str × DD)
  | [] => [(x, d)]
  | (g, y) :: r => if g = x then (g, d) :: r else (g, y) :: putD x d r
theorem RqF.otf {K : PySem.W.Frag} {G H : Hp} : ∀ {fs : List (Str × V)} {ds : List (Str × DD)}, RqF K G fs ds → OTf K G H fs (datF ds) []
  | _, _, .nil => .nil
  | _, _, .cons a b => OTf.cons (f1 := []) (f2 := []) (.dat a) (RqF.otf b) (fun _ z => nomatch z)
theorem OTf.rqF {K : PySem.W.Frag} {G H : Hp} : ∀ {ds : List (Str × DD)} {fs : List (Str × V)} {fp : List Addr}, OTf K G H fs (datF ds) fp → RqF K G fs ds ∧ fp = []
  | [], _, _, h => by cases h; exact ⟨.nil, rfl⟩
  | (x, d) :: ds, _, _, h => by
    cases h with
    | cons a b _ =>
      obtain ⟨r1, rfl⟩ := a.dat_inv
      obtain ⟨r2, rfl⟩ := OTf.rqF b
      exact ⟨.cons r1 r2, rfl⟩
theorem RqF.put {K : PySem.W.Frag} {G : Hp} {x : Str} {v : V} {d : DD} (r : Rq K G v d) : ∀ {fs : List (Str × V)} {ds : List (Str × DD)}, RqF K G fs ds → RqF K G (putF x v fs) (putD x d ds)
  | _, _, .nil => .cons r .nil
  | _, _, .cons (f := f) a b => by
    unfold putF putD
    by_cases h : f = x
    · rw [if_pos h, if_pos h]; exact .cons r b
    · rw [if_neg h, if_neg h]; exact .cons a (RqF.put r b)
theorem Rp.chgAt {K : PySem.W.Frag} {B : Bs} {σ : L2.St} {G H : Hp} {ρ : Rho} {fp : Nat → List Addr} (R : Rp K B G H σ ρ fp) {i : Nat} {t0 t1 : SV} {v : V} {a : Addr} {o : HO} (hi : ρ[i]? = some (some t0)) (hs : σ[i]? = some (some v)) (ha : a ∈ fp i) (ot : OT K G (upd H a o) v t1 (fp i)) :
    Rp K B G (upd H a o) σ (ρ.set i (some t1)) fp := by
  have il : i < ρ.length := (List.getElem?_eq_some_iff.mp hi).1
  have ain : In fp a := ⟨i, ha⟩
  have ga := (R.co.here ain).2
  obtain ⟨o0, h0⟩ := (R.co.here ain).1
  refine ⟨⟨by rw [List.length_set]; exact R.co.len, fun x u e => ?_, fun j t h => ?_, fun j h => ?_, R.co.dis⟩, ⟨R.stp.ex, fun x u h e => ?_, R.stp.hid⟩, R.own, fun j m => ?_, R.lo⟩
  · have : x ≠ a := fun z => by rw [z, ga] at e; cases e
    rw [upd_ne this]; exact R.co.sub x u e
  · by_cases e : j = i
    · subst e
      rw [List.getElem?_set_self il] at h
      injection h with h; injection h with h
      subst h
      exact ⟨_, hs, ot⟩
    · rw [List.getElem?_set_ne (Ne.symm e)] at h
      obtain ⟨u, e1, o1⟩ := R.co.slot j t h
      refine ⟨u, e1, o1.mono (Sub.refl _) (fun x m w e2 => ?_) fun x m => (o1.here x m).2⟩
      have : x ≠ a := fun z => by
        subst z
        exact e (R.co.dis j i x m ha)
      rw [upd_ne this]; exact e2
  · by_cases e : j = i
    · subst e; exact absurd (List.getElem?_set_self il) (h _)
    · exact R.co.nil j fun t q => h t (by rw [List.getElem?_set_ne (Ne.symm e)]; exact q)
  · have : x ≠ a := fun z => by
      subst z
      rcases R.own x ain with y | y
      · exact h y
      · rw [e] at y; cases y
    rw [upd_ne this]; exact R.stp.keep x u h e
  · obtain ⟨w, t, e1, e2, e3⟩ := R.io j m
    by_cases e : j = i
    · subst e; exact ⟨w, _, e1, e2, List.getElem?_set_self il⟩
    · exact ⟨w, t, e1, e2, by rw [List.getElem?_set_ne (Ne.symm e)]; exact e3⟩
@[simp] def fSetFld (C : Addr) (i : Nat) (x : Str) (fv : FV) : FS := fun D ρ => fv ρ fun d ρ1 => ∃ ds, ρ1[i]? = some (some (.ob C (datF ds))) ∧ ds.length < 1000 ∧ D.nx (ρ1.set i (some (.ob C (datF (putD x d ds)))))
theorem RqF.len {K : PySem.W.Frag} {G : Hp} : ∀ {fs : List (Str × V)} {ds : List (Str × DD)}, RqF K G fs ds → fs.length = ds.length
  | _, _, .nil => rfl
  | _, _, .cons _ b => congrArg (· + 1) (RqF.len b)
theorem s_setfld {X : Cx} {io : List Nat} {C : Addr} {x : Str} {e o : Expr} {te : TE} {fv : FV} {pos pos2 : Pos} (i : Nat) (hc : Cls X.K C) (hn : NoAttr X.K C x) (ho : PE X o te) (ht : te = tVar i) (hv : PDv X io e fv)
    (hs : swapsWith e (some (.Attribute o x pos2)) pos.line X.env = pure false := by rfl) : PDs X io (.Assign [.Attribute o x pos2] e pos) (fSetFld C i x fv) := by
  subst ht
  obtain ⟨_, a1, a2⟩ := hv
  refine ⟨_, ps_fld ho a1 hs, fun B G H σ ρ fp Dd Dh hB R hf sm => ?_⟩
  refine a2 B G H σ ρ fp _ _ hB R hf fun d ρ1 v G1 H1 fp1 n1 r ⟨ds, e0, hl, q⟩ => ?_
  obtain ⟨z, ez, ot⟩ := n1.rp.co.slot i _ e0
  obtain ⟨a, dx, fs, f, ev, ef, h1, h2, g1, g2, os, na, naf, ndf⟩ := ot.ob_inv
  subst ev
  obtain ⟨rf, ef0⟩ := OTf.rqF os
  subst ef0
  have ha : a ∈ fp1 i := by rw [ef]; exact List.mem_cons_self
  have hne : dx ≠ a := fun z => na z.symm
  have ot2 : OT X.K G1 (upd H1 a (.ins C dx (putF x v fs))) (.ref a) (.ob C (datF (putD x d ds))) (fp1 i) := by
    rw [ef]
    exact .ob upd_same (by rw [upd_ne hne]; exact h2) g1 g2 (RqF.otf (RqF.put r rf)) na (fun z => nomatch z) (fun z => nomatch z)
  exact ⟨.ref a, ez, a, C, dx, fs, rfl, h1, hc, hn, by rw [rf.len]; exact hl, sm.nx _ _ _ _ _ (n1.rp.chgAt e0 ez ha ot2) q⟩
/-! #### C(e, ..) -/
def Hm_ (P : Program) (w : World) (K : PySem.W.Frag) (mg : Str → Option Value) (base : Heap) (C : Addr) (x : Str) (ps : List Str) (k : Nat) (F : Ctr) : Prop :=
  ∃ f fd, mg x = some (.ref C) ∧ Mk K C f ∧ Binds K fd ps [] ∧ FnG P w K mg base CX0 k f fd ps (spD K F)
@[simp] def fMake (C : Addr) (F : Ctr) (fa : FAs) : FE := fun ρ Q => fa ρ fun avs ρ1 => ∃ ds : List DD, avs = ds.map (fun d => AV.val (.dat d)) ∧ F (.ob C [] :: ds.map .dat) fun r as' => r = .dat .non ∧ ∃ t rest, as' = t :: rest ∧ Q t ρ1
theorem AVR.dats {K : PySem.W.Frag} {G H : Hp} {σ : L2.St} : ∀ {ds : List DD} {vs : List V} {fr : List Addr}, AVR K G H σ vs (ds.map fun d => AV.val (.dat d)) fr → RqA K G vs ds
  | [], _, _, h => by cases h; exact .nil
  | d :: ds, _, _, h => by
    cases h with
    | val a b _ => exact .cons a.dat_inv.1 (AVR.dats b)
theorem e_make {X : Cx} {io : List Nat} {C : Addr} {x : Str} {ps : List Str} {k : Nat} {F : Ctr} {e : Expr} {es : List Expr} {fa : FAs} {pn pos : Pos} (h : Hm_ X.prog X.w X.K X.mg X.base C x ps k F) (hr : RoomG (k + 1) X.A) (ha : PDas X io (e :: es) fa) (hg : Gl X x := by rfl) (hdb : (x == ("__debug__" : Str)) = false := by decide)
    (he : starEach (e :: es) X.env = (false, eval e X.env) :: starEach es X.env := by rfl) (hpl : (backTo pos (starEach es X.env)).any (·.1) = false := by rfl) : PDe X io (.Call (.Name x pn) (e :: es) [] pos) (fMake C F fa) := by
  obtain ⟨f, fd, hm, M, hb, hF⟩ := h
  obtain ⟨t, a1, a2⟩ := ha
  refine ⟨_, pe_makeG M hF hr hg hm hb pass0 a1 hdb he hpl, fun B G H σ ρ fp Qd Q hB R hf k => ?_⟩
  refine a2 B G H σ ρ fp _ _ hB R hf fun avs ρ1 vs G1 H1 fp1 fr n1 ar t1 t2 ⟨ds, ea, q⟩ => ?_
  subst ea
  have rq := AVR.dats ar
  intro p dx hp hd hne
  have gp : G1 p = none := by
    cases e : G1 p with
    | none => rfl
    | some u => have := n1.rp.co.sub _ _ e; rw [hp] at this; cases this
  have gd : G1 dx = none := by
    cases e : G1 dx with
    | none => rfl
    | some u => have := n1.rp.co.sub _ _ e; rw [hd] at this; cases this
  generalize hH : upd (upd H1 dx (.own p)) p (.ins C dx []) = H2
  have h2p : H2 p = some (.ins C dx []) := by rw [← hH]; exact upd_same
  have h2d : H2 dx = some (.own p) := by rw [← hH, upd_ne hne]; exact upd_same
  have h2o : ∀ a o, H1 a = some o → H2 a = some o := fun a o e => by
    rw [← hH, upd_ne (ne_of_none e hp), upd_ne (ne_of_none e hd)]; exact e
  have h2n : ∀ a, H2 a = none → H1 a = none := fun a e => by
    cases z : H1 a with
    | none => rfl
    | some o => rw [h2o a o z] at e; cases e
  let g : Nat → List Addr := fun i => if i = 0 then [p, dx] else []
  have gin : ∀ a, In g a → a = p ∨ a = dx := fun a ⟨i, m⟩ => by
    by_cases e : i = 0
    · simp [g, e] at m; exact m
    · simp [g, e] at m
  have gn1 : ∀ a, In g a → H1 a = none := fun a m => by
    rcases gin a m with e | e
    · rw [e]; exact hp
    · rw [e]; exact hd
  refine ⟨G1, .ob C [] :: ds.map .dat, g, _, ⟨by simp [rq.length], fun a o e => h2o a o (n1.rp.co.sub a o e), fun i t e => ?_, fun i e => ?_, fun i j a m1 m2 => ?_⟩, q, fun r as' v G' H' fp' fr' c st inn ot d1 d2 ⟨er, t', rest, ea, q2⟩ => ?_⟩
  · cases i with
    | zero =>
      have : SV.ob C [] = t := by simpa using e
      subst this
      exact ⟨.ref p, rfl, .ob h2p h2d gp gd .nil (fun z => hne z.symm) (fun z => nomatch z) (fun z => nomatch z)⟩
    | succ i =>
      have e' : (ds.map SV.dat)[i]? = some t := by simpa using e
      rw [List.getElem?_map] at e'
      cases h : ds[i]? with
      | none => rw [h] at e'; cases e'
      | some d =>
        rw [h] at e'
        have : SV.dat d = t := by simpa using e'
        subst this
        obtain ⟨u, hu, ru⟩ := rq.get h
        exact ⟨u, by simp [hu], .dat ru⟩
  · cases i with
    | zero => exact absurd rfl (e (.ob C []))
    | succ i => rfl
  · cases i with
    | zero =>
      cases j with
      | zero => rfl
      | succ j => cases m2
    | succ i => cases m1
  · subst er ea
    refine ⟨ot.dat_inv.1.non_inv, ?_⟩
    obtain ⟨z, ez, o0⟩ := c.slot 0 t' rfl
    have : z = .ref p := by simpa using ez.symm
    subst this
    have keep : ∀ a o, H1 a = some o → H' a = some o := fun a o e => st.keep a o (fun m => by rw [gn1 a m] at e; cases e) (h2o a o e)
    have hid : ∀ a o, H1 a = some o → G1 a = none → G' a = none := fun a o e g0 => st.hid a o (fun m => by rw [gn1 a m] at e; cases e) (h2o a o e) g0
    have fresh : ∀ a ∈ fp' 0, H1 a = none := fun a m => (inn a ⟨0, m⟩).elim (gn1 a) (h2n a)
    have st2 : Stp (In fp1) G1 H1 G' H' := ⟨st.ex, fun a o _ e => keep a o e, fun a o _ e g0 => hid a o e g0⟩
    have n2 : Nxt X.K B σ G1 H1 fp1 G' H' ρ1 fp1 := ⟨⟨n1.rp.co.grow st.ex (fun a _ o e => keep a o e) (fun a m => by
      obtain ⟨⟨o, e⟩, g0⟩ := n1.rp.co.here m
      exact hid a o e g0) c.sub, n1.rp.stp.trans st2 n1.rp.own, n1.rp.own, n1.rp.io, n1.rp.lo.trans st.ex⟩, st2, fun _ m => .inl m⟩
    refine k t' ρ1 (.ref p) G' H' fp1 (fp' 0) (n1.trans n2) o0 (fun a m z => ?_) (fun a m => ?_) q2
    · obtain ⟨⟨o, e⟩, _⟩ := n1.rp.co.here z
      rw [fresh a m] at e; cases e
    · by_cases z : In fp a
      · exact .inr z
      · exact .inl (n1.st.fresh z (fresh a m))
end DL

namespace DL
open PySem PySem.Spec PyProof.Rows L2
/-! ### in, not in -/
theorem RqA.strs_inv {K : PySem.W.Frag} {G : Hp} : ∀ {ns : List Str} {vs : List V}, RqA K G vs (ns.map DD.str) → vs = ns.map V.str
  | [], _, h => by cases h; rfl
  | n :: ns, _, h => by
    cases h with
    | cons a b => rw [a.str_inv, RqA.strs_inv b]; rfl
theorem inV_int (a : Int) : ∀ ns : List Int, inV (.int a) (ns.map V.int) = decide (a ∈ ns)
  | [] => rfl
  | n :: ns => by
    have ih := inV_int a ns
    unfold inV at ih ⊢
    rw [List.map_cons, List.any_cons, ih]
    show (n == a || decide (a ∈ ns)) = _
    by_cases h : n = a
    · subst h; simp
    · have : a ≠ n := fun e => h e.symm
      simp [h, this]
theorem inV_str (a : Str) : ∀ ns : List Str, inV (.str a) (ns.map V.str) = decide (a ∈ ns)
  | [] => rfl
  | n :: ns => by
    have ih := inV_str a ns
    unfold inV at ih ⊢
    rw [List.map_cons, List.any_cons, ih]
    show (n == a || decide (a ∈ ns)) = _
    by_cases h : n = a
    · subst h; simp
    · have : a ≠ n := fun e => h e.symm
      simp [h, this]
theorem flat_ints (ns : List Int) : (ns.map V.int).all flatV = true := by simp [flatV]
theorem flat_strs (ns : List Str) : (ns.map V.str).all flatV = true := by simp [flatV]
@[simp] def oInQ (neg : Bool) : Op2 := fun d e P => (∃ (a : Int) (ns : List Int), d = .int a ∧ (e = .lst (ns.map .int) ∨ e = .tup (ns.map .int)) ∧ P (.bl (if neg then !decide (a ∈ ns) else decide (a ∈ ns)))) ∨
  ∃ (a : Str) (ns : List Str), d = .str a ∧ (e = .lst (ns.map .str) ∨ e = .tup (ns.map .str)) ∧ P (.bl (if neg then !decide (a ∈ ns) else decide (a ∈ ns)))
theorem sc_in {K : PySem.W.Frag} (neg : Bool) : ScR K (rIn K neg) (oInQ neg) := fun H x y d e P Q hx hy h k => by
  have seq : ∀ {ds : List DD}, (e = .lst ds ∨ e = .tup ds) → ∃ p xs, y = .ref p ∧ (SqL K H p xs ∨ SqT K H p xs) ∧ RqA K H xs ds := fun {ds} q => by
    rcases q with rfl | rfl
    · obtain ⟨a, xs, ev, h, r⟩ := hy.lst_inv
      exact ⟨a, xs, ev, .inl (.inl h), r⟩
    · obtain ⟨a, xs, ev, h, r⟩ := hy.tup_inv
      exact ⟨a, xs, ev, .inr h, r⟩
  rcases h with ⟨a, ns, rfl, q, p⟩ | ⟨a, ns, rfl, q, p⟩
  · obtain ⟨b, xs, ey, hs, r⟩ := seq q
    have := r.ints_inv
    subst this
    rw [hx.int_inv]
    exact ⟨b, _, ey, hs, rfl, flat_ints ns, by rw [inV_int]; exact k _ _ p (.bl _)⟩
  · obtain ⟨b, xs, ey, hs, r⟩ := seq q
    have := r.strs_inv
    subst this
    rw [hx.str_inv]
    exact ⟨b, _, ey, hs, rfl, flat_strs ns, by rw [inV_str]; exact k _ _ p (.bl _)⟩
section
variable {X : Cx} {io : List Nat} {a b c : Expr} {pos : Pos} {fa fb fc : FO}
theorem p_in (ha : PDo X io a fa) (hb : PDo X io b fb) (hm : behindInMarks .In b = false := by rfl) : PDv X io (.Compare a [.In] [b] pos) (fBin (oInQ false) fa fb) := p_cmp op_in_seq (sc_in false) hm ha hb
theorem p_nin (ha : PDo X io a fa) (hb : PDo X io b fb) (hm : behindInMarks .NotIn b = false := by rfl) : PDv X io (.Compare a [.NotIn] [b] pos) (fBin (oInQ true) fa fb) := p_cmp op_notIn_seq (sc_in true) hm ha hb
theorem q_in (ha : PDo X io a fa) (hb : PDo X io b fb) (hm : behindInMarks .In b = false := by rfl) : PDt X io (.Compare a [.In] [b] pos) (fTst (fBin (oInQ false) fa fb)) := t_cmp op_in_seq (sc_in false) hm ha hb
theorem q_nin (ha : PDo X io a fa) (hb : PDo X io b fb) (hm : behindInMarks .NotIn b = false := by rfl) : PDt X io (.Compare a [.NotIn] [b] pos) (fTst (fBin (oInQ true) fa fb)) := t_cmp op_notIn_seq (sc_in true) hm ha hb
/-! ### a op b op c -/
@[simp] def fChn (f g : Op2) (fa fb fc : FO) : FV := fun ρ Q => fa ρ fun x ρ1 => fb ρ1 fun y ρ2 => ∃ d e, resD ρ2 x = some d ∧ resD ρ2 y = some e ∧ f d e fun z => ∃ k, z = .bl k ∧
  if k = true then fc ρ2 fun u ρ3 => ∃ e' w, resD ρ3 y = some e' ∧ resD ρ3 u = some w ∧ g e' w fun z => Q z ρ3 else Q (.bl false) ρ2
theorem Lit.bl_inv {w : V} {k : Bool} (h : Lit w (.bl k)) : w = .bl k := by cases h; rfl
theorem dv_chain {r r' : R2} {f g : Op2} {ta tb tc : TE} (hr : ScR X.K r f) (hr' : ScR X.K r' g) (ha : DO X.K io ta fa) (hb : DO X.K io tb fb) (hc : DO X.K io tc fc) : DV X.K io (tChain r r' ta tb tc) (fChn f g fa fb fc) := by
  intro B G H σ ρ fp Qd Q hB R hf k
  refine ha B G H σ ρ fp _ _ hB R hf fun x ρ1 v1 G1 H1 fp1 n1 o1 hf => ?_
  refine hb B G1 H1 σ ρ1 fp1 _ _ hB n1.rp hf fun y ρ2 v2 G2 H2 fp2 n2 o2 ⟨d, e, e1, e2, q⟩ => ?_
  refine hr H2 v1 v2 d e _ _ ((o1.next n2).rqH n2.rp e1) (o2.rqH n2.rp e2) q fun z w ⟨b, ez, q⟩ l => ?_
  subst ez
  refine ⟨b, l.bl_inv, ?_⟩
  cases b with
  | false => exact k (.bl false) ρ2 (.bl false) G2 H2 fp2 (n1.trans n2) (.bl false) q
  | true =>
    refine hc B G2 H2 σ ρ2 fp2 _ _ hB n2.rp q fun u ρ3 v3 G3 H3 fp3 n3 o3 ⟨e', w', e3, e4, q⟩ => ?_
    exact hr' H3 v2 v3 e' w' _ Q ((o2.next n3).rqH n3.rp e3) (o3.rqH n3.rp e4) q fun z w q l => k z ρ3 w G3 H3 fp3 (n1.trans (n2.trans n3)) l.rq q
theorem p_chn {op op' : CmpOp} {r r' : R2} {f g : Op2} (ho : OpR X (compareOp op) r) (ho' : OpR X (compareOp op') r') (hr : ScR X.K r f) (hr' : ScR X.K r' g) (ha : PDo X io a fa) (hb : PDo X io b fb) (hc : PDo X io c fc) (hm : lastMarks [op, op'] [b, c] = false := by with_unfolding_all rfl) :
    PDv X io (.Compare a [op, op'] [b, c] pos) (fChn f g fa fb fc) := by
  obtain ⟨ta, a1, a2⟩ := ha
  obtain ⟨tb, b1, b2⟩ := hb
  obtain ⟨tc, c1, c2⟩ := hc
  exact ⟨_, pe_chain ho ho' a1 b1 c1 hm, dv_chain hr hr' a2 b2 c2⟩
/-! ### all -/
@[simp] def oAll : OpN := fun ds P => ∃ bs : List Bool, ds = [.lst (bs.map .bl)] ∧ P (.bl (bs.all id))
theorem RqA.bls_inv {K : PySem.W.Frag} {G : Hp} : ∀ {ns : List Bool} {vs : List V}, RqA K G vs (ns.map DD.bl) → vs = ns.map V.bl
  | [], _, h => by cases h; rfl
  | n :: ns, _, h => by
    cases h with
    | cons a b => rw [a.bl_inv, RqA.bls_inv b]; rfl
theorem p_all {p : Pos} {e : Expr} {fos : FOs} (hc : X.calm = true) (hm : X.mg "all" = none) (ha : PDos X io [e] fos) (hg : Gl X "all" := by rfl) (he : starEach [e] X.env = (false, eval e X.env) :: starEach [] X.env := by rfl) : PDv X io (.Call (.Name "all" p) [e] [] pos) (fCB oAll fos) :=
  p_cb (cr_all hc) (fun H xs ds P Q hx h k => by
    obtain ⟨ns, rfl, q⟩ := h
    obtain ⟨x, rfl, r⟩ := hx.one
    obtain ⟨a, ys, rfl, h, r⟩ := r.lst_inv
    have := r.bls_inv
    subst this
    exact ⟨a, ns, rfl, .inl h, k _ _ q (.bl _)⟩) hm (by decide +kernel) ha hg (by decide) (by decide) he
end
end DL

namespace DL
open PySem PySem.Spec PyProof.Rows L2
/-! ### a written dict of ints -/
structure KTab (K : PySem.W.Frag) (w : World) (d : Addr) (T : List (Str × Int)) : Prop where
  ex : ∃ es n, KDict K w d es n
  at_ : ∀ z i, (z, i) ∈ T → ∃ t, PySem.W.nsIn K d z = some (some (.int i t))
section
variable {X : Cx} {io : List Nat} {a b : Expr} {pos : Pos} {fa fb : FO} {d : Addr} {T : List (Str × Int)}
theorem c_gref {x : Str} (hm : X.mg x = some (.ref d)) (hg : Gl X x := by rfl) (hd : (x == ("__debug__" : Str)) = false := by decide) : PDv X io (.Name x pos) (fC (.opq (.ref d))) :=
  ⟨_, pe_glob hg hm (v := .ref d) rfl hd, fun B G H σ ρ fp Qd Q hB R hf k => k _ ρ (.ref d) G H fp (Nxt.refl R) (.opq _) hf⟩
@[simp] def oNinK (d : Addr) (T : List (Str × Int)) : Op2 := fun x y P => ∃ z i, x = .str z ∧ y = .opq (.ref d) ∧ (z, i) ∈ T ∧ P (.bl false)
theorem p_ninK (D : KTab X.K X.w d T) (ha : PDo X io a fa) (hb : PDo X io b fb) (hm : behindInMarks .NotIn b = false := by rfl) : PDv X io (.Compare a [.NotIn] [b] pos) (fBin (oNinK d T) fa fb) := by
  obtain ⟨es, n, D1⟩ := D.ex
  refine p_cmp (op_notIn_kd D1) (fun H x y u v P Q hx hy h k => ?_) hm ha hb
  obtain ⟨z, i, rfl, rfl, m, q⟩ := h
  obtain ⟨t, e⟩ := D.at_ z i m
  exact ⟨z, _, hx.str_inv, hy.opq_inv, e, k _ _ q (.bl _)⟩
theorem q_ninK (D : KTab X.K X.w d T) (ha : PDo X io a fa) (hb : PDo X io b fb) (hm : behindInMarks .NotIn b = false := by rfl) : PDt X io (.Compare a [.NotIn] [b] pos) (fTst (fBin (oNinK d T) fa fb)) := by
  obtain ⟨es, n, D1⟩ := D.ex
  refine t_cmp (op_notIn_kd D1) (fun H x y u v P Q hx hy h k => ?_) hm ha hb
  obtain ⟨z, i, rfl, rfl, m, q⟩ := h
  obtain ⟨t, e⟩ := D.at_ z i m
  exact ⟨z, _, hx.str_inv, hy.opq_inv, e, k _ _ q (.bl _)⟩
@[simp] def fIxK (d : Addr) (T : List (Str × Int)) (fa fb : FO) : FV := fun ρ Q => fa ρ fun x ρ1 => fb ρ1 fun y ρ2 => ∃ z i, resD ρ2 x = some (.opq (.ref d)) ∧ resD ρ2 y = some (.str z) ∧ (z, i) ∈ T ∧ Q (.int i) ρ2
theorem v_ixK (D : KTab X.K X.w d T) (ha : PDo X io a fa) (hb : PDo X io b fb) (hs : PlainIx b := by exact fun _ _ => rfl) : PDv X io (.Subscript a b pos) (fIxK d T fa fb) := by
  obtain ⟨ta, a1, a2⟩ := ha
  obtain ⟨tb, b1, b2⟩ := hb
  obtain ⟨es, n, D1⟩ := D.ex
  refine ⟨_, pe_ix ix_kdict a1 b1 hs, fun B G H σ ρ fp Qd Q hB R hf k => ?_⟩
  refine a2 B G H σ ρ fp _ _ hB R hf fun x ρ1 v1 G1 H1 fp1 n1 o1 hf => ?_
  refine b2 B G1 H1 σ ρ1 fp1 _ _ hB n1.rp hf fun y ρ2 v2 G2 H2 fp2 n2 o2 ⟨z, i, e1, e2, m, q⟩ => ?_
  have h1 := ((o1.next n2).rqH n2.rp e1).opq_inv
  have h2 := (o2.rqH n2.rp e2).str_inv
  obtain ⟨t, e⟩ := D.at_ z i m
  exact ⟨d, z, .int i, h1, h2, ⟨es, n, _, D1.at_, D1.lit, e, ⟨t, rfl⟩⟩, k (.int i) ρ2 (.int i) G2 H2 fp2 (n1.trans n2) (.int i) q⟩
/-! ### isinstance of an int -/
theorem kit_int : ∀ c ∈ ["int", "bool"], kitB "int" c = some (c == "int") := by decide +kernel
@[simp] def oIsiI : OpN := fun ds P => ∃ (i : Int) (c : String), ds = [.int i, .opq (.ty c)] ∧ c ∈ ["int", "bool"] ∧ P (.bl (c == "int"))
theorem p_isiI {p : Pos} {fos : FOs} (hm : X.mg "isinstance" = none) (ha : PDos X io [a, b] fos) (hg : Gl X "isinstance" := by rfl) (he : starEach [a, b] X.env = (false, eval a X.env) :: starEach [b] X.env := by rfl) (hpl : (backTo pos (starEach [b] X.env)).any (·.1) = false := by rfl) : PDv X io (.Call (.Name "isinstance" p) [a, b] [] pos) (fCB oIsiI fos) :=
  p_cb call_isi (fun H xs ds P Q hx h k => by
    obtain ⟨i, c, rfl, hc, q⟩ := h
    obtain ⟨x, y, rfl, r, s⟩ := hx.two
    have := s.opq_inv
    subst this
    exact ⟨x, .ty c, _, _, _, rfl, .ty c, r.tyX rfl, kit_ty (kit_int c hc), k _ _ q (.bl _)⟩) hm PyProof.Rows.boot_isinstance ha hg (by decide) (by decide) he hpl
theorem c_intT (hm : X.mg "int" = none) (hg : Gl X "int" := by rfl) : PDv X io (.Name "int" pos) (fC (.opq (.ty "int"))) := c_blt (v := .ty "int") (u := .type "int") hm (by decide +kernel) rfl hg
theorem c_boolT (hm : X.mg "bool" = none) (hg : Gl X "bool" := by rfl) : PDv X io (.Name "bool" pos) (fC (.opq (.ty "bool"))) := c_blt (v := .ty "bool") (u := .type "bool") hm (by decide +kernel) rfl hg
end
end DL

namespace DL
open PySem PySem.Spec PyProof.Rows L2
/-! ### sorted(set(a list of ints)) -/
section
variable {P : Program} {w : World} {A : Around} {E : Value → Shared → Prop} {s : Shared}
/-- a set that was just made -/
abbrev nso (w : World) : Obj := { cls := .type "set", dict := none, data := .set #[] 0 (.fresh 0 0 (!w.params.followText "set-order")) }
abbrev nsh (w : World) (h : Heap) : Heap := h.push (nso w)
theorem set_of_list {l : Addr} {its : Array Value} (ns : List Int) {Q : Value → Shared → Prop} (h0 : A.handled = none) (hl : s.heap.IsList l its) (hit : IntsAre its.toList ns) (hb : ns.length + 1 < scanBound)
    (h : ∀ (h' : Heap) (tk c : Nat), SetR w h' s.heap.objs.size (fun j => decide (j ∈ ns)) c → c ≤ ns.length → (∀ b o, s.heap.get? b = some o → h'.get? b = some o) → Q (.ref s.heap.objs.size) { s with heap := h', toks := tk }) :
    wpAny (model P w) A (call (.type "set") [.ref l]) Q E s := by
  have sz : its.size = ns.length := by have := IntsAre.length hit; rwa [Array.length_toList] at this
  obtain ⟨_, _, m0⟩ := F.called_set.mro
  have m1 := F.called_set.made; have m2 := F.called_set.sub
  apply wpAny_call; apply codeAny_of_tree
  show wpAny _ _ (callAny (.type "set") _) _ _ _
  apply wpAny_pure; refine ⟨Code.quiet_builtin _ (by decide +kernel), ?_⟩; apply codeAny_builtin F.entry_type_call
  rw [Around.under_plain (weight_type_call_type "set" [.ref l] []) rfl]
  have m3 := F.called_set.notType; have m4 := F.called_set.canCreate; have m5 := F.typeCall_set_1 (.ref l)
  repeat (any_goals (first | assumption | wp_step))
  refine codeAny_mono (code_set_led1 (.ref l) (E := E) (Q₁ := fun y z => y = .ref s.heap.objs.size ∧ z = { s with heap := nsh w s.heap }) ⟨rfl, rfl⟩) fun r z hr => ?_
  rcases r with e | f
  · exact hr
  cases f with
  | next => exact hr.elim
  | brk => exact hr.elim
  | cont => exact hr.elim
  | ret y =>
    obtain ⟨rfl, rfl⟩ := hr
    have at0 : (nsh w s.heap).get? s.heap.objs.size = some (nso w) := Heap.get?_push_size _ rfl
    have ty0 : Shared.TypeIs { s with heap := nsh w s.heap } (.ref s.heap.objs.size) "set" := ⟨_, at0, rfl⟩
    have i1 := F.called_set.init.lookup; have i2 := F.called_set.init.bind (.ref s.heap.objs.size)
    repeat (any_goals (first | assumption | wp_step))
    refine codeAny_mono (codeAny_call_builtin (R := wants (fun r z => r = .none ∧ ∃ h' tk c, z = { s with heap := h', toks := tk } ∧ SetR w h' s.heap.objs.size (fun j => decide (j ∈ ns)) c ∧ c ≤ ns.length ∧ ∀ b o, s.heap.get? b = some o → h'.get? b = some o) E)
      F.called_set.init.plain F.entry_set_init (check_set_init_1 ty0 ?_)) fun r z hr => ?_
    · obtain ⟨⟨oc, od, dt, osl⟩, hol, e1, nl, e2⟩ := hl
      simp only at e1 e2
      subst e1 e2
      have at1 : (nsh w s.heap).get? l = some { cls := .type "list", dict := od, data := .seq its nl, slots := osl } := Heap.get?_push_of_some _ hol
      have s1 := F.sub_list_set; have s2 := F.sub_list_frozenset
      have nd : (Value.type "list" == Value.type "dict") = false := by decide
      have isl : (nsh w s.heap).IsList l its := ⟨_, at1, rfl, nl, rfl⟩
      unfold Builtin.«set.__init__» noKeywords Builtin.Frozenset.updateFrom
      generalize hPI : pyIter = PI
      wp_walk
      subst hPI
      apply wpAny_pyIter_list isl
      apply wpAny_bind; apply wpAny_runValue
      have lS : l < s.heap.objs.size := Heap.lt_size hol
      have h3 : A.in1.in1.in1.handled = none := by simp [h0]
      have pz : (nsh w s.heap).objs.size = s.heap.objs.size + 1 := Heap.size_push ..
      have nI : l ≠ (nsh w s.heap).objs.size := by rw [pz]; exact Nat.ne_of_lt (Nat.lt_succ_of_lt lS)
      have nS : s.heap.objs.size ∉ [(nsh w s.heap).objs.size, l] := by
        rw [pz]; simp only [List.mem_cons, List.not_mem_nil, or_false]
        rintro (z | z)
        · exact Nat.ne_of_lt (Nat.lt_succ_self _) z
        · exact Nat.ne_of_gt lS z
      have vals : ∀ (i : Nat) (v : Value), its[i]? = some v → ∃ k t, ns[i]? = some k ∧ v = .int k t := fun i v hv => by
        have hi : i < ns.length := by rw [← sz]; exact (Array.getElem?_eq_some_iff.mp hv).1
        obtain ⟨t, e⟩ := PyProof.Rows.IntsAre.int_at hit i v (by rw [Array.getElem?_toList]; exact hv)
        refine ⟨ns[i], t, List.getElem?_eq_getElem hi, ?_⟩
        rw [e, List.getD_eq_getElem?_getD, List.getElem?_eq_getElem hi] <;> rfl
      refine set_update_ints ((Walks.list h3 _ l nI its).toS) s.heap.objs.size nS ns sz hb vals (its.size - 0) 0 _ (by omega) (Nat.zero_le _) ⟨⟨_, Heap.get?_push_size _ rfl, rfl, rfl⟩, (isl.push _)⟩ ⟨0, Nat.le_refl 0, setR_new_at (Heap.get?_push_of_some _ at0)⟩ fun z c mv hc hS => ?_
      obtain ⟨h', g2, d2, tk2, os2⟩ := z
      have eg : g2 = s.gens := mv.gens
      have ed : d2 = s.drawn := mv.drawn
      have eo : os2 = s.os := mv.os
      subst eg ed eo
      show wpAny _ _ _ _ _ _
      apply wpAny_pure
      show wpAny _ _ (ret Value.none) _ _ _
      rw [sz] at hc
      refine wpAny_pure ⟨rfl, h', tk2, c, rfl, hS, hc, fun b o e => ?_⟩
      have b0 : b < s.heap.objs.size := Heap.lt_size e
      refine mv.heap b o ?_ (Heap.get?_push_of_some _ (Heap.get?_push_of_some _ e))
      simp only [List.mem_cons, List.not_mem_nil, or_false]
      rintro (z | z)
      · exact Nat.ne_of_lt b0 z
      · exact Nat.ne_of_lt (show b < (nsh w s.heap).objs.size by rw [pz]; exact Nat.lt_succ_of_lt b0) z
    · rcases r with e | f
      · exact hr
      cases f with
      | next => exact hr.elim
      | brk => exact hr.elim
      | cont => exact hr.elim
      | ret r =>
        obtain ⟨rfl, h', tk2, c, rfl, hS, hc, hk⟩ := hr
        repeat (any_goals (first | assumption | wp_step))
        exact h _ _ _ hS hc hk
end
def tSortSet (K : PySem.W.Frag) (ta : TE) : TE := fun σ H Q => ta σ H fun x H1 => ∃ (l : Addr) (ns : List Int), x = .ref l ∧ SqL K H1 l (ns.map V.int) ∧ ns.length < 60 ∧ ∀ (out : List Int) (p : Addr), out.Pairwise (· < ·) → (∀ k, k ∈ out ↔ k ∈ ns) → H1 p = none → Q (.ref p) (upd H1 p (.lst (out.map V.int)))
theorem ints_vals : ∀ {ns : List Int} {us : List Value}, Vals (ns.map V.int) us → IntsAre us ns
  | [], _, .nil => .nil
  | n :: _, _, .cons r t => by
    obtain ⟨k, rfl⟩ := r
    exact .cons n k (ints_vals t)
theorem pe_sortset {X : Cx} {a : Expr} {ta : TE} {p p2 q pos : Pos} (hc : X.calm = true) (hm : X.mg "sorted" = none) (hm2 : X.mg "set" = none) (ha : PE X a ta) (hg : Gl X "sorted" := by rfl) (hg2 : Gl X "set" := by rfl)
    (na : starEach [a] X.env = (false, eval a X.env) :: starEach [] X.env := by rfl) : PE X (.Call (.Name "sorted" p) [.Call (.Name "set" p2) [a] [] q] [] pos) (tSortSet X.K ta) := ⟨fun pins s σ H Q I h => by
  refine Call_ (ld_blt I hg hm (show bootBuiltins "sorted" = some (.builtin "sorted") by decide +kernel) ?_)
  refine PyProof.Rows.callWith_builtin1 (PyProof.Rows.args_cons ?_ rfl) rfl rfl
  refine Call_ (ld_blt I hg2 hm2 boot_set ?_)
  refine PyProof.Rows.callWith_type1 (PyProof.Rows.args_cons (thn (ha.run pins s σ H _ I h) fun v s1 ⟨x, H1, I1, r1, q1⟩ => PyProof.Rows.args_nil ?_) na) na rfl
  obtain ⟨l, ns, rfl, hq, hl, q1⟩ := q1
  cases r1
  obtain ⟨its, r, pl, hz⟩ := I1.list hq
  refine set_of_list ns (I1.ok.hd hc) pl.isList (by simpa using ints_vals r) (by unfold scanBound; omega) fun h' tk c hS hcn hk => ?_
  refine PyProof.Rows.args_nil ?_
  have I2 : Inv X pins σ H1 { s1 with heap := h', toks := tk } := I1.kept fun b o e => hk b o e
  refine sorted_set hS (I2.ok.hd hc) (by omega) fun s' p out c ns2 k g o hp hg hi hs hm hl2 => ?_
  have hlen : (ns2.map V.int).length ≤ sizeLine := by rw [List.length_map, hl2, sizeLine_eq]; omega
  have hn : H1 p = none := I2.hok.fresh hp
  have J : Inv X pins σ (upd H1 p (.lst (ns2.map V.int))) { ({ s1 with heap := h', toks := tk } : Shared) with heap := s'.heap, gens := s'.gens, drawn := s'.drawn, toks := s'.toks } :=
    I2.call (ch := []) (Un.laid k hp hn) (I2.hok.laid k hp ⟨hlen, out.toList, c, vals_of_ints hi, hg⟩) (by rw [g]; exact I2.bare) (fun _ z => nomatch z)
  have e : s' = { s1 with heap := s'.heap, gens := s'.gens, drawn := s'.drawn, toks := s'.toks } := by
    cases s'; cases s1; cases o; rfl
  rw [e]
  exact ⟨.ref p, _, J, rfl, q1 ns2 p hs (fun k => by simpa using hm k) hn⟩⟩
end DL

namespace DL
open PySem PySem.Spec PyProof.Rows L2
theorem OTs.ints {K : PySem.W.Frag} {G H : Hp} : ∀ ns : List Int, OTs K G H (ns.map V.int) (tI ns) []
  | [] => .nil
  | n :: ns => OTs.cons (f1 := []) (f2 := []) (.dat (.int n)) (OTs.ints ns) (fun _ z => nomatch z)
@[simp] def fSortSet (fo : FO) : FE := fun ρ Q => fo ρ fun o ρ1 => ∃ ns : List Int, resD ρ1 o = some (.lst (ns.map .int)) ∧ ns.length < 60 ∧ ∀ out : List Int, out.Pairwise (· < ·) → (∀ k, k ∈ out ↔ k ∈ ns) → Q (oI out) ρ1
theorem e_sortset {X : Cx} {io : List Nat} {a : Expr} {fo : FO} {p p2 q pos : Pos} (hc : X.calm = true) (hm : X.mg "sorted" = none) (hm2 : X.mg "set" = none) (ha : PDo X io a fo) (hg : Gl X "sorted" := by rfl) (hg2 : Gl X "set" := by rfl)
    (na : starEach [a] X.env = (false, eval a X.env) :: starEach [] X.env := by rfl) : PDe X io (.Call (.Name "sorted" p) [.Call (.Name "set" p2) [a] [] q] [] pos) (fSortSet fo) := by
  obtain ⟨ta, a1, a2⟩ := ha
  refine ⟨_, pe_sortset hc hm hm2 a1 hg hg2 na, fun B G H σ ρ fp Qd Q hB R hf k => ?_⟩
  refine a2 B G H σ ρ fp _ _ hB R hf fun o ρ1 v G1 H1 fp1 n1 o1 ⟨ns, e1, hl, q⟩ => ?_
  obtain ⟨l, xs, ev, h, r⟩ := (o1.rqH n1.rp e1).lst_inv
  have := r.ints_inv
  subst this
  refine ⟨l, ns, ev, .inl h, hl, fun out p hs hm hp => ?_⟩
  have gp : G1 p = none := by
    cases e : G1 p with
    | none => rfl
    | some u => have := n1.rp.co.sub _ _ e; rw [hp] at this; cases this
  have n2 := Nxt.laid (o := .lst (out.map V.int)) n1.rp hp
  refine k (oI out) ρ1 (.ref p) G1 (upd H1 p (.lst (out.map V.int))) fp1 [p] (n1.trans n2) (.own upd_same gp (OTs.ints out) (fun z => nomatch z)) (fun b m z => ?_) (fun b m => ?_) (q out hs hm)
  · have : b = p := by simpa using m
    subst this
    obtain ⟨⟨o, e⟩, _⟩ := n1.rp.co.here z
    rw [hp] at e; cases e
  · have : b = p := by simpa using m
    subst this
    by_cases z : In fp b
    · exact .inr z
    · exact .inl (n1.st.fresh z hp)
/-- a list that rises is its own sorting -/
theorem sorted_same : ∀ {a b : List Int}, a.Pairwise (· < ·) → b.Pairwise (· < ·) → (∀ k, k ∈ a ↔ k ∈ b) → a = b
  | [], [], _, _, _ => rfl
  | [], y :: b, _, _, h => absurd ((h y).mpr List.mem_cons_self) (by simp)
  | x :: a, [], _, _, h => absurd ((h x).mp List.mem_cons_self) (by simp)
  | x :: a, y :: b, ha, hb, h => by
    obtain ⟨a1, a2⟩ := List.pairwise_cons.mp ha
    obtain ⟨b1, b2⟩ := List.pairwise_cons.mp hb
    have e : x = y := by
      rcases List.mem_cons.mp ((h x).mp List.mem_cons_self) with e | m
      · exact e
      · rcases List.mem_cons.mp ((h y).mpr List.mem_cons_self) with e | m2
        · exact e.symm
        · have := b1 x m
          have := a1 y m2
          omega
    subst e
    rw [sorted_same a2 b2 fun k => ?_]
    constructor
    · intro m
      rcases List.mem_cons.mp ((h k).mp (List.mem_cons_of_mem _ m)) with e | m2
      · have := a1 k m
        omega
      · exact m2
    · intro m
      rcases List.mem_cons.mp ((h k).mpr (List.mem_cons_of_mem _ m)) with e | m2
      · have := b1 k m
        omega
      · exact m2
end DL

namespace DL
open PySem PySem.Spec PyProof.Rows L2 He
/-! ### the facts of properties -/
structure PrD where
  cls : Str
  prop : Str
  d : DefD
def pgA (K : PySem.W.Frag) (C f : Str) : Addr := match PySem.W.recIn K (ma K (ga K C) f) "property" with
  | some (.ref g :: _) => g
  | _ => 0
def fnWA (K : PySem.W.Frag) (a : Addr) : FnW := match K.lookup a with
  | some ⟨_, _, .func z, _⟩ => some (z.name, z.qualname, z.params, z.body, z.scope, z.globals, z.closure, z.builtins)
  | _ => none
def PrD.okB (K : PySem.W.Frag) (p : PrD) : Bool := eqO (PySem.W.findIn K (.ref (ga K p.cls)) p.prop) (some (some (.ref (ma K (ga K p.cls) p.prop)))) &&
  (eqO (PySem.W.specialIn K (.ref (ma K (ga K p.cls) p.prop)) "__get__") (some (some (.builtin "property.__get__"))) && (decide (PySem.W.takesIn K (.ref (ma K (ga K p.cls) p.prop)) = some true) &&
  ((match PySem.W.recIn K (ma K (ga K p.cls) p.prop) "property" with
    | some (.ref _ :: _) => true
    | _ => false) && (PySem.W.keepIn K (.ref (pgA K p.cls p.prop)) && (match K.lookup (pgA K p.cls p.prop) with
    | some ⟨_, _, .func z, _⟩ => PySem.W.codeIn K z.code p.d.qual && (dflB K z.defaults [] && kwdB K z.kwdefaults [])
    | _ => false)))))
theorem PrD.ok {K : PySem.W.Frag} {p : PrD} (c : p.okB K = true) (e : fnWA K (pgA K p.cls p.prop) = p.d.val) :
    PropOf K (ga K p.cls) p.prop (ma K (ga K p.cls) p.prop) (pgA K p.cls p.prop) ∧ ∃ fd, FunD K p.d.name p.d.qual p.d.params p.d.body p.d.scope [] [] (pgA K p.cls p.prop) fd := by
  obtain ⟨c1, c⟩ := ba c
  obtain ⟨c2, c⟩ := ba c
  obtain ⟨c3, c⟩ := ba c
  obtain ⟨c4, c⟩ := ba c
  obtain ⟨c5, c6⟩ := ba c
  constructor
  · refine ⟨eqO_ok c1, eqO_ok c2, of_decide_eq_true c3, ?_⟩
    unfold pgA
    cases q : PySem.W.recIn K (ma K (ga K p.cls) p.prop) "property" with
    | none => rw [q] at c4; cases c4
    | some vs =>
      rw [q] at c4
      match vs, c4 with
      | .ref g :: rest, _ => exact ⟨rest, rfl⟩
  · unfold fnWA at e
    cases q : K.lookup (pgA K p.cls p.prop) with
    | none => rw [q] at c6; cases c6
    | some o =>
      obtain ⟨oc, od, dt, osl⟩ := o
      rw [q] at c6 e
      cases dt with
      | func z =>
        obtain ⟨n1, n2, n3, n4, n5, n6, n7, n8, n9, n10, n11, n12, n13, n14, n15⟩ := z
        have e2 : (some (n1, n2, n3, n4, n5, n6, n7, n15) : FnW) = some (p.d.name, p.d.qual, p.d.params, .stmts p.d.body, p.d.scope, mainGlobals, [], builtinsNs) := e
        simp only [Option.some.injEq, Prod.mk.injEq] at e2
        obtain ⟨h1, h2, h3, h4, h5, h6, h7, h8⟩ := e2
        subst h1 h2 h3 h4 h5 h6 h7 h8
        have c7 : (PySem.W.codeIn K n13 p.d.qual && (dflB K n8 [] && kwdB K n9 [])) = true := c6
        obtain ⟨k1, k2⟩ := ba c7
        obtain ⟨k3, k4⟩ := ba k2
        exact ⟨_, ⟨oc, od, n8, n9, n10, n11, n12, n13, n14, osl, rfl, q, k1, dflB_ok k3, kwdB_ok k4⟩, c5⟩
      | _ => cases c6
/-- ints of a dict -/
def tabB (K : PySem.W.Frag) (x : Str) (T : List (Str × Int)) : Bool := T.all fun q => match PySem.W.nsIn K (ga K x) q.1 with
  | some (some (.int j _)) => decide (j = q.2)
  | _ => false
theorem tabB_ok {K : PySem.W.Frag} {w : World} {x : Str} {T : List (Str × Int)} (h : tabB K x T = true) (e : ∃ es n, KDict K w (ga K x) es n) : KTab K w (ga K x) T := ⟨e, fun z i m => by
  have h2 := List.all_eq_true.mp h (z, i) m
  cases q : PySem.W.nsIn K (ga K x) z with
  | none => rw [q] at h2; cases h2
  | some r =>
    rw [q] at h2
    cases r with
    | none => cases h2
    | some v =>
      cases v with
      | int j t => exact ⟨t, by rw [of_decide_eq_true h2]⟩
      | _ => cases h2⟩
def limB (K : PySem.W.Frag) : Bool := match PySem.W.nsIn K cStatics "sys.int_max_str_digits" with
  | some none => true
  | _ => false
theorem limB_ok {K : PySem.W.Frag} (h : limB K = true) : LimK K := by
  unfold limB at h
  unfold LimK
  split at h
  · assumption
  · cases h
abbrev AlX : Type := AlT × (Bool × List FnW)
def obsX (fa : List Fa) (fn : List DefD) (ts : List Tab) (ps : List PrD) (tb : List (Str × List (Str × Int))) (xf : List (PySem.W.Frag → Bool)) (K : PySem.W.Frag) : AlX := (obsT fa fn ts K, ((ps.all fun p => p.okB K) && ((tb.all fun q => tabB K q.1 q.2) && (limB K && xf.all fun t => t K))), ps.map fun p => fnWA K (pgA K p.cls p.prop))
def valX (fn : List DefD) (ts : List Tab) (ps : List PrD) (w : World) : AlX := (valT fn ts w, true, ps.map fun p => p.d.val)
def obsXG (n : Nat) (fa : List Fa) (fn : List DefD) (ts : List Tab) (ps : List PrD) (tb : List (Str × List (Str × Int))) (xf : List (PySem.W.Frag → Bool)) (g : Addr → Option Obj) : AlX := obsX fa fn ts ps tb xf (frG g (asD g n ++ [cStatics]))
def SaysX (fa : List Fa) (fn : List DefD) (ts : List Tab) (ps : List PrD) (tb : List (Str × List (Str × Int))) (xf : List (PySem.W.Frag → Bool)) (w : World) (K : PySem.W.Frag) : Prop := obsX fa fn ts ps tb xf K = valX fn ts ps w
def hookX (n : Nat) (fa : List Fa) (fn : List DefD) (ts : List Tab) (ps : List PrD) (tb : List (Str × List (Str × Int))) (xf : List (PySem.W.Frag → Bool)) : PySem.W.Hook where
  α := AlX
  obs := fun s => obsXG n fa fn ts ps tb xf s.heap.get?
  val := fun w => valX fn ts ps w
  says := fun w h => ∃ K : PySem.W.Frag, K.In h ∧ SaysX fa fn ts ps tb xf w K
  of := fun _ _ e => ⟨_, frG_in, e⟩
  keeps := fun _ _ _ ⟨K, h1, c⟩ k => ⟨K, PySem.W.Frag.In.keeps h1 k, c⟩
theorem obsXG_eq {n : Nat} {fa : List Fa} {fn : List DefD} {ts : List Tab} {ps : List PrD} {tb : List (Str × List (Str × Int))} {xf : List (PySem.W.Frag → Bool)} {g : Addr → Option Obj} {s : Shared} (h : ∀ a, g a = s.heap.get? a) : obsXG n fa fn ts ps tb xf g = (hookX n fa fn ts ps tb xf).obs s := by
  have e : g = s.heap.get? := funext h
  subst e
  rfl
section
variable {fa : List Fa} {fn : List DefD} {ts : List Tab} {ps : List PrD} {tb : List (Str × List (Str × Int))} {xf : List (PySem.W.Frag → Bool)} {w : World} {K : PySem.W.Frag}
theorem SaysX.t (c : SaysX fa fn ts ps tb xf w K) : SaysT fa fn ts w K := congrArg (fun z : AlX => z.1) c
theorem SaysX.pr (c : SaysX fa fn ts ps tb xf w K) (i : Nat) {p : PrD} (h : ps[i]? = some p := by rfl) : PropOf K (ga K p.cls) p.prop (ma K (ga K p.cls) p.prop) (pgA K p.cls p.prop) ∧ ∃ fd, FunD K p.d.name p.d.qual p.d.params p.d.body p.d.scope [] [] (pgA K p.cls p.prop) fd := by
  have c1 := (ba (show ((ps.all fun p => p.okB K) && ((tb.all fun q => tabB K q.1 q.2) && (limB K && xf.all fun t => t K))) = true from congrArg (fun z : AlX => z.2.1) c)).1
  have e : ps.map (fun p => fnWA K (pgA K p.cls p.prop)) = ps.map fun p => p.d.val := congrArg (fun z : AlX => z.2.2) c
  have e2 : (ps.map fun p => fnWA K (pgA K p.cls p.prop))[i]? = (ps.map fun p => p.d.val)[i]? := by rw [e]
  rw [List.getElem?_map, List.getElem?_map, h] at e2
  exact PrD.ok (List.all_eq_true.mp c1 p (List.mem_of_getElem? h)) (Option.some.inj e2)
theorem SaysX.tb_ (c : SaysX fa fn ts ps tb xf w K) (i : Nat) {q : Str × List (Str × Int)} (h : tb[i]? = some q := by rfl) : tabB K q.1 q.2 = true :=
  List.all_eq_true.mp (ba (ba (show ((ps.all fun p => p.okB K) && ((tb.all fun q => tabB K q.1 q.2) && (limB K && xf.all fun t => t K))) = true from congrArg (fun z : AlX => z.2.1) c)).2).1 q (List.mem_of_getElem? h)
end
theorem SaysX.lim {fa : List Fa} {fn : List DefD} {ts : List Tab} {ps : List PrD} {tb : List (Str × List (Str × Int))} {xf : List (PySem.W.Frag → Bool)} {w : World} {K : PySem.W.Frag} (c : SaysX fa fn ts ps tb xf w K) : LimK K :=
  limB_ok (ba (ba (ba (show ((ps.all fun p => p.okB K) && ((tb.all fun q => tabB K q.1 q.2) && (limB K && xf.all fun t => t K))) = true from congrArg (fun z : AlX => z.2.1) c)).2).2).1
theorem SaysX.xf_ {fa : List Fa} {fn : List DefD} {ts : List Tab} {ps : List PrD} {tb : List (Str × List (Str × Int))} {xf : List (PySem.W.Frag → Bool)} {w : World} {K : PySem.W.Frag} (c : SaysX fa fn ts ps tb xf w K) (i : Nat) {t : PySem.W.Frag → Bool} (h : xf[i]? = some t := by rfl) : t K = true :=
  List.all_eq_true.mp (ba (ba (ba (show ((ps.all fun p => p.okB K) && ((tb.all fun q => tabB K q.1 q.2) && (limB K && xf.all fun t => t K))) = true from congrArg (fun z : AlX => z.2.1) c)).2).2).2 t (List.mem_of_getElem? h)
/-- the j-th stmt of a class -/
def clsAt : Stmt → Nat → Stmt
  | .ClassDef _ _ _ b _ _ _ _ _ _ _, j => b.getD j (.Pass ⟨0, 0, 0, 0⟩)
  | _, _ => .Pass ⟨0, 0, 0, 0⟩
end DL

namespace DL
open PySem PySem.Spec PyProof.Rows L2
section
variable {X : Cx} {io : List Nat} {a b c : Expr} {pos : Pos} {fa fb fc : FO}
theorem q_chn {op op' : CmpOp} {r r' : R2} {f g : Op2} (ho : OpR X (compareOp op) r) (ho' : OpR X (compareOp op') r') (hr : ScR X.K r f) (hr' : ScR X.K r' g) (ha : PDo X io a fa) (hb : PDo X io b fb) (hc : PDo X io c fc) (hm : lastMarks [op, op'] [b, c] = false := by with_unfolding_all rfl) :
    PDt X io (.Compare a [op, op'] [b, c] pos) (fTst (fChn f g fa fb fc)) := by
  obtain ⟨ta, a1, a2⟩ := ha
  obtain ⟨tb, b1, b2⟩ := hb
  obtain ⟨tc, c1, c2⟩ := hc
  exact ⟨_, pt_chain ho ho' a1 b1 c1 hm, dt_T (dv_chain hr hr' a2 b2 c2)⟩
end
/-- a setting of the world, told apart -/
theorem split_f (f : String → Bool) : ∃ (b : Bool) (g : String → Bool), f = fun r => if r = "special-get-raises" then b else g r := ⟨f "special-get-raises", f, by
  funext r
  split
  · next h => rw [h]
  · rfl⟩
/-! a, b, c, d = x, y, z, u: a tuple is made and taken apart, the trees stay owned -/
@[simp] def fPar4 (io : List Nat) (i j l m : Nat) (fs : FSs) : FS := fun D ρ => fs ρ fun ts ρ1 => ∃ t u w r, ts = [t, u, w, r] ∧ i ∉ io ∧ j ∉ io ∧ l ∉ io ∧ m ∉ io ∧ D.nx ((((ρ1.set i (some t)).set j (some u)).set l (some w)).set m (some r))
theorem OTs.four {K : PySem.W.Frag} {G H : Hp} {vs : List V} {t u w r : SV} {fr : List Addr} (h : OTs K G H vs [t, u, w, r] fr) : ∃ x y z q f1 f2 f3 f4, vs = [x, y, z, q] ∧ OT K G H x t f1 ∧ OT K G H y u f2 ∧ OT K G H z w f3 ∧ OT K G H q r f4 ∧
    (∀ a ∈ f1, a ∉ f2) ∧ (∀ a ∈ f1, a ∉ f3) ∧ (∀ a ∈ f1, a ∉ f4) ∧ (∀ a ∈ f2, a ∉ f3) ∧ (∀ a ∈ f2, a ∉ f4) ∧ (∀ a ∈ f3, a ∉ f4) ∧ (∀ a ∈ f1, a ∈ fr) ∧ (∀ a ∈ f2, a ∈ fr) ∧ (∀ a ∈ f3, a ∈ fr) ∧ ∀ a ∈ f4, a ∈ fr := by
  cases h with
  | cons a b d =>
    obtain ⟨y, z, q, f2, f3, f4, rfl, o2, o3, o4, d23, d24, d34, i2, i3, i4⟩ := b.three
    exact ⟨_, y, z, q, _, f2, f3, f4, rfl, a, o2, o3, o4, fun x m m' => d x m (i2 x m'), fun x m m' => d x m (i3 x m'), fun x m m' => d x m (i4 x m'), d23, d24, d34, fun x m => List.mem_append_left _ m, fun x m => List.mem_append_right _ (i2 x m), fun x m => List.mem_append_right _ (i3 x m), fun x m => List.mem_append_right _ (i4 x m)⟩
theorem s_un4 {X : Cx} {io : List Nat} {i j l m : Nat} {x y z u : Str} {a b c d : Expr} {fs : FSs} {px py pz pu pt pos : Pos} {kt k2 : Nat} {pt2 : Pos} (hc : X.calm = true) (hN : X.N.Nodup) (h : PDs' X io [a, b, c, d] fs) (hi : X.N[i]? = some x := by rfl) (hj : X.N[j]? = some y := by rfl) (hl : X.N[l]? = some z := by rfl) (hm : X.N[m]? = some u := by rfl)
    (hx : Loc X.env.scope x := by first | exact Or.inl rfl | exact Or.inr rfl) (hy : Loc X.env.scope y := by first | exact Or.inl rfl | exact Or.inr rfl) (hz : Loc X.env.scope z := by first | exact Or.inl rfl | exact Or.inr rfl) (hu : Loc X.env.scope u := by first | exact Or.inl rfl | exact Or.inr rfl)
    (fx : X.fn x = true ∨ X.env.scope.names.lookup x = some .local := by first | exact .inl rfl | exact .inr rfl) (fy : X.fn y = true ∨ X.env.scope.names.lookup y = some .local := by first | exact .inl rfl | exact .inr rfl)
    (fz : X.fn z = true ∨ X.env.scope.names.lookup z = some .local := by first | exact .inl rfl | exact .inr rfl) (fu : X.fn u = true ∨ X.env.scope.names.lookup u = some .local := by first | exact .inl rfl | exact .inr rfl)
    (hs : swapsWithSole [.Tuple [.Name x px, .Name y py, .Name z pz, .Name u pu] kt pt] (.Tuple [a, b, c, d] k2 pt2) pos.line X.env = pure false := by rfl) (hw : swappedStores [.Tuple [.Name x px, .Name y py, .Name z pz, .Name u pu] kt pt] (.Tuple [a, b, c, d] k2 pt2) X.env = pure none := by rfl)
    (h1 : (assignEach [.Tuple [.Name x px, .Name y py, .Name z pz, .Name u pu] kt pt] X.env).map (·.2) = [assign (.Tuple [.Name x px, .Name y py, .Name z pz, .Name u pu] kt pt) X.env] := by rfl)
    (c1 : (assignEach [.Name x px, .Name y py, .Name z pz, .Name u pu] X.env).map (·.2) = assign (.Name x px) X.env :: (assignEach [.Name y py, .Name z pz, .Name u pu] X.env).map (·.2) := by rfl)
    (c2 : (assignEach [.Name y py, .Name z pz, .Name u pu] X.env).map (·.2) = assign (.Name y py) X.env :: (assignEach [.Name z pz, .Name u pu] X.env).map (·.2) := by rfl)
    (c3 : (assignEach [.Name z pz, .Name u pu] X.env).map (·.2) = assign (.Name z pz) X.env :: (assignEach [.Name u pu] X.env).map (·.2) := by rfl)
    (c4 : (assignEach [.Name u pu] X.env).map (·.2) = assign (.Name u pu) X.env :: (assignEach [] X.env).map (·.2) := by rfl)
    (hn : (assignEach [.Name x px, .Name y py, .Name z pz, .Name u pu] X.env).length = 4 := by rfl) (hst : (assignEach [.Name x px, .Name y py, .Name z pz, .Name u pu] X.env).findIdx? (·.1) = none := by rfl) :
    PDs X io (.Assign [.Tuple [.Name x px, .Name y py, .Name z pz, .Name u pu] kt pt] (.Tuple [a, b, c, d] k2 pt2) pos) (fPar4 io i j l m fs) := by
  obtain ⟨ta, a1, a2⟩ := h
  refine ⟨_, ps_asg (pe_tup a1) (pg_tup hc (pgs_cons (pg_name hN hi hx fx) (pgs_cons (pg_name hN hj hy fy) (pgs_cons (pg_name hN hl hz fz) (pgs_cons (pg_name hN hm hu fu) pgs_nil c4) c3) c2) c1) hn hst) hs hw h1, fun B G H σ ρ fp Dd Dh hB R hf s => ?_⟩
  refine a2 B G H σ ρ fp _ _ hB R hf fun ts ρ1 vs G1 H1 fp1 fr n os t1 t2 ⟨t, u, w, r, et, hi', hj', hl', hm', q⟩ => ?_
  subst et
  refine ⟨by rw [os.length]; show 4 ≤ sizeLine; decide, fun p hp => ?_⟩
  obtain ⟨v1, v2, v3, v4, f1, f2, f3, f4, rfl, o1, o2, o3, o4, d12, d13, d14, d23, d24, d34, in1, in2, in3, in4⟩ := os.four
  have n2 := n.trans (Nxt.laid n.rp (o := .tup [v1, v2, v3, v4]) hp)
  have hb := R.base t2
  have up : ∀ {z : V} {e : SV} {f : List Addr}, OT X.K G1 H1 z e f → OT X.K G1 (upd H1 p (.tup [v1, v2, v3, v4])) z e f := fun o => o.mono (Sub.refl _) (fun b m e g => by
    rw [upd_ne (show b ≠ p from fun z => by rw [z, hp] at g; cases g)]; exact g) fun b m => (o.here b m).2
  have R1 := n2.rp.put (i := i) (by rw [hB]; exact hi') (up o1) (fun c m => t1 c (in1 c m)) (fun c m => hb c (in1 c m))
  have R2 := R1.put (i := j) (by rw [hB]; exact hj') (up o2) (out_put (fun c m => t1 c (in2 c m)) d12) (fun c m => hb c (in2 c m))
  have R3 := R2.put (i := l) (by rw [hB]; exact hl') (up o3) (out_put (out_put (fun c m => t1 c (in3 c m)) d13) d23) (fun c m => hb c (in3 c m))
  have R4 := R3.put (i := m) (by rw [hB]; exact hm') (up o4) (out_put (out_put (out_put (fun c m => t1 c (in4 c m)) d14) d24) d34) (fun c m => hb c (in4 c m))
  exact ⟨p, [v1, v2, v3, v4], rfl, .inl (.inl upd_same), rfl, v1, [v2, v3, v4], rfl, v2, [v3, v4], rfl, v3, [v4], rfl, v4, [], rfl, rfl, s.nx _ _ _ _ _ R4 q⟩
end DL

namespace DL
open PySem PySem.Spec PyProof.Rows L2
/-! ### places within trees -/
def setF (x : Str) (t : SV) : List (Str × SV) → List (Str × SV)
  | [] => []
  | (g, y) :: r => if g = x then (g, t) :: r else (g, y) :: setF x t r
def putT (x : Str) (t : SV) : List (Str × SV) → List (Str × SV)
  | [] => [(x, t)]
  | (g, y) :: r => if g = x then (g, t) :: r else (g, y) :: putT x t r
/-- one part is put into another's stead -/
def Rep (K : PySem.W.Frag) (G H : Hp) (f f1 : List Addr) (v1 : V) (P : Hp → Hp → SV → List Addr → Prop) : Prop :=
  ∀ (G' H' : Hp) (t' : SV) (f1' : List Addr), Sub G G' → (∀ a ∈ f, a ∉ f1 → (∀ o, H a = some o → H' a = some o) ∧ G' a = none) → OT K G' H' v1 t' f1' → (∀ a ∈ f1', a ∈ f1 ∨ a ∉ f) →
    ∃ f', P G' H' t' f' ∧ ∀ a ∈ f', (a ∈ f ∧ a ∉ f1) ∨ a ∈ f1'
section
variable {K : PySem.W.Frag} {G H : Hp}
theorem OTf.part : ∀ {fs : List (Str × SV)} {vs : List (Str × V)} {f : List Addr} {x : Str} {t1 : SV}, OTf K G H vs fs f → fs.lookup x = some t1 →
    ∃ v1 f1, vs.lookup x = some v1 ∧ OT K G H v1 t1 f1 ∧ (∀ a ∈ f1, a ∈ f) ∧ Rep K G H f f1 v1 fun G' H' t' f' => OTf K G' H' vs (setF x t' fs) f'
  | [], _, _, _, _, _, e => by cases e
  | (g, y) :: r, _, _, x, t1, h, e => by
    cases h with
    | cons a b d =>
      rename_i v vs f1 f2
      rw [List.lookup_cons] at e
      by_cases q : g = x
      · subst q
        rw [show (g == g) = true from beq_self_eq_true g] at e
        injection e with e
        subst e
        refine ⟨v, f1, by rw [List.lookup_cons, show (g == g) = true from beq_self_eq_true g], a, fun z m => List.mem_append_left _ m, fun G' H' t' f1' s k o n => ?_⟩
        have k2 : ∀ z ∈ f2, (∀ u, H z = some u → H' z = some u) ∧ G' z = none := fun z m => k z (List.mem_append_right _ m) fun m' => d z m' m
        dsimp only
        rw [setF, if_pos rfl]
        refine ⟨f1' ++ f2, .cons o (b.mono s (fun z m u e => (k2 z m).1 u e) fun z m => (k2 z m).2) fun z m m' => ?_, fun z m => ?_⟩
        · rcases n z m with w | w
          · exact d z w m'
          · exact w (List.mem_append_right _ m')
        · rcases List.mem_append.mp m with m | m
          · exact .inr m
          · exact .inl ⟨List.mem_append_right _ m, fun w => d z w m⟩
      · have q' : (x == g) = false := by
          cases z : x == g with
          | false => rfl
          | true => exact absurd (eq_of_beq z).symm q
        rw [q'] at e
        obtain ⟨v1, g1, l1, o1, i1, rp⟩ := OTf.part b e
        refine ⟨v1, g1, by rw [List.lookup_cons, q']; exact l1, o1, fun z m => List.mem_append_right _ (i1 z m), fun G' H' t' f1' s k o n => ?_⟩
        have ka : ∀ z ∈ f1, (∀ u, H z = some u → H' z = some u) ∧ G' z = none := fun z m => k z (List.mem_append_left _ m) fun m' => d z m (i1 z m')
        obtain ⟨f', p, inn⟩ := rp G' H' t' f1' s (fun z m m' => k z (List.mem_append_right _ m) m') o fun z m => (n z m).imp id fun w m' => w (List.mem_append_right _ m')
        dsimp only
        rw [setF, if_neg q]
        refine ⟨f1 ++ f', .cons (a.mono s (fun z m u e => (ka z m).1 u e) fun z m => (ka z m).2) p fun z m m' => ?_, fun z m => ?_⟩
        · rcases inn z m' with ⟨w, _⟩ | w
          · exact d z m w
          · rcases n z w with w | w
            · exact d z m (i1 z w)
            · exact w (List.mem_append_left _ m)
        · rcases List.mem_append.mp m with m | m
          · exact .inl ⟨List.mem_append_left _ m, fun w => d z m (i1 z w)⟩
          · rcases inn z m with ⟨w, w2⟩ | w
            · exact .inl ⟨List.mem_append_right _ w, w2⟩
            · exact .inr w
theorem OTs.part : ∀ {ts : List SV} {vs : List V} {f : List Addr} {j : Nat} {t1 : SV}, OTs K G H vs ts f → ts[j]? = some t1 →
    ∃ v1 f1, vs[j]? = some v1 ∧ OT K G H v1 t1 f1 ∧ (∀ a ∈ f1, a ∈ f) ∧ Rep K G H f f1 v1 fun G' H' t' f' => OTs K G' H' vs (ts.set j t') f'
  | [], _, _, _, _, _, e => by simp at e
  | y :: r, _, _, 0, t1, h, e => by
    cases h with
    | cons a b d =>
      rename_i v vs f1 f2
      have : y = t1 := by simpa using e
      subst this
      refine ⟨v, f1, rfl, a, fun z m => List.mem_append_left _ m, fun G' H' t' f1' s k o n => ?_⟩
      have k2 : ∀ z ∈ f2, (∀ u, H z = some u → H' z = some u) ∧ G' z = none := fun z m => k z (List.mem_append_right _ m) fun m' => d z m' m
      refine ⟨f1' ++ f2, .cons o (b.mono s (fun z m u e => (k2 z m).1 u e) fun z m => (k2 z m).2) fun z m m' => ?_, fun z m => ?_⟩
      · rcases n z m with w | w
        · exact d z w m'
        · exact w (List.mem_append_right _ m')
      · rcases List.mem_append.mp m with m | m
        · exact .inr m
        · exact .inl ⟨List.mem_append_right _ m, fun w => d z w m⟩
  | y :: r, _, _, j + 1, t1, h, e => by
    cases h with
    | cons a b d =>
      rename_i v vs f1 f2
      obtain ⟨v1, g1, l1, o1, i1, rp⟩ := OTs.part (j := j) b (by simpa using e)
      refine ⟨v1, g1, by simpa using l1, o1, fun z m => List.mem_append_right _ (i1 z m), fun G' H' t' f1' s k o n => ?_⟩
      have ka : ∀ z ∈ f1, (∀ u, H z = some u → H' z = some u) ∧ G' z = none := fun z m => k z (List.mem_append_left _ m) fun m' => d z m (i1 z m')
      obtain ⟨f', p, inn⟩ := rp G' H' t' f1' s (fun z m m' => k z (List.mem_append_right _ m) m') o fun z m => (n z m).imp id fun w m' => w (List.mem_append_right _ m')
      refine ⟨f1 ++ f', .cons (a.mono s (fun z m u e => (ka z m).1 u e) fun z m => (ka z m).2) p fun z m m' => ?_, fun z m => ?_⟩
      · rcases inn z m' with ⟨w, _⟩ | w
        · exact d z m w
        · rcases n z w with w | w
          · exact d z m (i1 z w)
          · exact w (List.mem_append_left _ m)
      · rcases List.mem_append.mp m with m | m
        · exact .inl ⟨List.mem_append_left _ m, fun w => d z m (i1 z w)⟩
        · rcases inn z m with ⟨w, w2⟩ | w
          · exact .inl ⟨List.mem_append_right _ w, w2⟩
          · exact .inr w
end
/-- a place: its slot, what stands there, the slot's tree behind a change -/
structure PV where
  i : Nat
  u : SV
  put : SV → SV
abbrev FQ := Rho → Option PV
def onQ (o : Option PV) (f : PV → Prop) : Prop := match o with
  | some q => f q
  | none => False
@[simp] theorem onQ_some (q : PV) (f : PV → Prop) : onQ (some q) f = f q := rfl
def onOb (C : Addr) (t : SV) (f : List (Str × SV) → Prop) : Prop := match t with
  | .ob D fs => D = C ∧ f fs
  | _ => False
@[simp] theorem onOb_ob (C : Addr) (fs : List (Str × SV)) (f : List (Str × SV) → Prop) : onOb C (.ob C fs) f = f fs := by simp [onOb]
def onOwn (t : SV) (f : List SV → Prop) : Prop := match t with
  | .own ts => f ts
  | _ => False
@[simp] theorem onOwn_own (ts : List SV) (f : List SV → Prop) : onOwn (.own ts) f = f ts := rfl
def onDat (t : SV) (f : DD → Prop) : Prop := match t with
  | .dat d => f d
  | _ => False
@[simp] theorem onDat_dat (d : DD) (f : DD → Prop) : onDat (.dat d) f = f d := rfl
theorem onQ_of {o : Option PV} {f : PV → Prop} (h : onQ o f) : ∃ q, o = some q ∧ f q := by
  cases o with
  | none => exact h.elim
  | some q => exact ⟨q, rfl, h⟩
theorem onOb_of {C : Addr} {t : SV} {f : List (Str × SV) → Prop} (h : onOb C t f) : ∃ fs, t = .ob C fs ∧ f fs := by
  cases t with
  | ob D fs => obtain ⟨rfl, h⟩ := h; exact ⟨fs, rfl, h⟩
  | _ => exact h.elim
theorem onOwn_of {t : SV} {f : List SV → Prop} (h : onOwn t f) : ∃ ts, t = .own ts ∧ f ts := by
  cases t with
  | own ts => exact ⟨ts, rfl, h⟩
  | _ => exact h.elim
theorem onDat_of {t : SV} {f : DD → Prop} (h : onDat t f) : ∃ d, t = .dat d ∧ f d := by
  cases t with
  | dat d => exact ⟨d, rfl, h⟩
  | _ => exact h.elim
@[simp] def qN (i : Nat) : FQ := fun ρ => ρ[i]?.join.map fun t => ⟨i, t, id⟩
@[simp] def stF (C : Addr) (x : Str) (q : PV) : Option PV := match q.u with
  | .ob D fs => if D = C then (fs.lookup x).map fun w => ⟨q.i, w, fun w' => q.put (.ob D (setF x w' fs))⟩ else none
  | .dat (.obj D ds) => if D = C then (ds.lookup x).map fun d => ⟨q.i, .dat d, fun _ => q.put q.u⟩ else none
  | _ => none
@[simp] def stI (k : Int) (q : PV) : Option PV := match q.u with
  | .own ts => (ixN ts.length k).bind fun j => ts[j]?.map fun w => ⟨q.i, w, fun w' => q.put (.own (ts.set j w'))⟩
  | .tp ts => (ixN ts.length k).bind fun j => ts[j]?.map fun w => ⟨q.i, w, fun w' => q.put (.tp (ts.set j w'))⟩
  | .dat (.lst ds) => (atI ds k).map fun d => ⟨q.i, .dat d, fun _ => q.put q.u⟩
  | .dat (.tup ds) => (atI ds k).map fun d => ⟨q.i, .dat d, fun _ => q.put q.u⟩
  | _ => none
@[simp] def qF (C : Addr) (x : Str) (p : FQ) : FQ := fun ρ => (p ρ).bind (stF C x)
@[simp] def qI (k : Rho → Option Int) (p : FQ) : FQ := fun ρ => (p ρ).bind fun q => (k ρ).bind fun i => stI i q
/-- the place as it stands in a heap -/
structure At (K : PySem.W.Frag) (G H : Hp) (σ : L2.St) (ρ : Rho) (fp : Nat → List Addr) (q : PV) (v' : V) (f1 : List Addr) : Prop where
  ex : ∃ t v, ρ[q.i]? = some (some t) ∧ σ[q.i]? = some (some v) ∧ OT K G H v t (fp q.i) ∧ Rep K G H (fp q.i) f1 v' fun G' H' t' f' => OT K G' H' v (q.put t') f'
  ot : OT K G H v' q.u f1
  sub : ∀ a ∈ f1, a ∈ fp q.i
def DQ (K : PySem.W.Frag) (te : TE) (p : FQ) : Prop := ∀ (B : Bs) G H σ ρ fp, Rp K B G H σ ρ fp → ∀ q, p ρ = some q → ∃ v' f1, At K G H σ ρ fp q v' f1 ∧ ∀ Q : VK, Q v' H → te σ H Q
def PDq (X : Cx) (e : Expr) (p : FQ) : Prop := ∃ te, PE X e te ∧ DQ X.K te p
/-- an index that changes nothing -/
def DK (K : PySem.W.Frag) (te : TE) (k : Rho → Option Int) : Prop := ∀ (B : Bs) G H σ ρ fp, Rp K B G H σ ρ fp → ∀ i, k ρ = some i → ∀ Q : VK, Q (.int i) H → te σ H Q
def PDk (X : Cx) (e : Expr) (k : Rho → Option Int) : Prop := ∃ te, PE X e te ∧ DK X.K te k
section
variable {X : Cx} {e b o : Expr} {pos p1 p2 : Pos}
@[simp] def kC (i : Int) : Rho → Option Int := fun _ => some i
@[simp] def kV (j : Nat) : Rho → Option Int := fun ρ => match ρ[j]? with
  | some (some (.dat (.int i))) => some i
  | _ => none
theorem k_int {i : Int} {j : Nat} : PDk X (.Constant (.int i) j pos) (kC i) := ⟨_, pe_int, fun _ _ _ _ _ _ _ _ e _ q => by cases e; exact q⟩
theorem k_neg {i : Int} {j : Nat} : PDk X (.UnaryOp .USub (.Constant (.int i) j p1) p2) (kC (-i)) := ⟨_, pe_un un_neg pe_int, fun _ _ _ _ _ _ _ _ e Q q => by cases e; exact ⟨i, rfl, q⟩⟩
theorem k_var {te : TE} (j : Nat) (h : PE X e te) (ht : te = tVar j) : PDk X e (kV j) := by
  subst ht
  refine ⟨_, h, fun B G H σ ρ fp R i ei Q q => ?_⟩
  unfold kV at ei
  split at ei
  · rename_i z hz
    cases ei
    obtain ⟨v, e1, ot⟩ := R.co.slot j _ hz
    obtain rfl := ot.dat_inv.1.int_inv
    exact ⟨_, e1, q⟩
  · cases ei
theorem q_n {te : TE} (i : Nat) (h : PE X e te) (ht : te = tVar i) : PDq X e (qN i) := by
  subst ht
  refine ⟨_, h, fun B G H σ ρ fp R q eq => ?_⟩
  unfold qN at eq
  cases ej : ρ[i]?.join with
  | none => rw [ej] at eq; cases eq
  | some t =>
    rw [ej] at eq
    cases eq
    have et := join_some ej
    obtain ⟨v, e1, ot⟩ := R.co.slot i t et
    exact ⟨v, fp i, ⟨⟨t, v, et, e1, ot, fun G' H' t' f1' s k o n => ⟨f1', o, fun a m => .inr m⟩⟩, ot, fun a m => m⟩, fun Q q => ⟨v, e1, q⟩⟩
theorem At.next {K : PySem.W.Frag} {G H : Hp} {σ : L2.St} {ρ : Rho} {fp : Nat → List Addr} {q : PV} {v' : V} {f1 : List Addr} (A : At K G H σ ρ fp q v' f1) {w : SV} {v2 : V} {f2 : List Addr} {g : SV → SV}
    (ot : OT K G H v2 w f2) (sub : ∀ a ∈ f2, a ∈ f1) (rp : Rep K G H f1 f2 v2 fun G' H' t' f' => OT K G' H' v' (g t') f') : At K G H σ ρ fp ⟨q.i, w, fun w' => q.put (g w')⟩ v2 f2 := by
  obtain ⟨t, v, e1, e2, o1, r1⟩ := A.ex
  refine ⟨⟨t, v, e1, e2, o1, fun G' H' t' f' s k o n => ?_⟩, ot, fun a m => A.sub a (sub a m)⟩
  obtain ⟨f3, o3, i3⟩ := rp G' H' t' f' s (fun a m m' => k a (A.sub a m) m') o (fun a m => (n a m).imp id fun z m' => z (A.sub a m'))
  obtain ⟨f4, o4, i4⟩ := r1 G' H' (g t') f3 s (fun a m m' => k a m fun z => m' (sub a z)) o3 (fun a m => by
    rcases i3 a m with ⟨z, _⟩ | z
    · exact .inl z
    · exact (n a z).imp (sub a) id)
  refine ⟨f4, o4, fun a m => ?_⟩
  rcases i4 a m with ⟨z, z2⟩ | z
  · exact .inl ⟨z, fun w => z2 (sub a w)⟩
  · rcases i3 a z with ⟨y, y2⟩ | y
    · exact .inl ⟨A.sub a y, y2⟩
    · exact .inr y
theorem Rep.dat {K : PySem.W.Frag} {G H : Hp} {v v2 : V} {d : DD} {f2 : List Addr} (r : Rq K G v d) : Rep K G H [] f2 v2 fun G' H' t' f' => OT K G' H' v (.dat d) f' :=
  fun G' H' t' f' s k o n => ⟨[], .dat (r.mono s), fun _ m => nomatch m⟩
theorem q_f {x : Str} {p : FQ} {C : Addr} (hc : Cls X.K C) (hn : NoAttr X.K C x) (h : PDq X o p)
    (hb : attributeBase o x X.env (eval o X.env) = eval o X.env := by rfl) : PDq X (.Attribute o x pos) (qF C x p) := by
  obtain ⟨te, h1, h2⟩ := h
  refine ⟨_, pe_fld h1 hb, fun B G H σ ρ fp R q eq => ?_⟩
  unfold qF at eq
  cases e0 : p ρ with
  | none => rw [e0] at eq; cases eq
  | some q0 =>
    rw [e0] at eq
    have eq' : stF C x q0 = some q := eq
    obtain ⟨v', f1, A, go⟩ := h2 B G H σ ρ fp R q0 e0
    have ot := A.ot
    unfold stF at eq'
    split at eq'
    · rename_i D fs eu
      rw [eu] at ot
      split at eq'
      case isFalse => cases eq'
      rename_i eD
      subst eD
      cases el : fs.lookup x with
      | none => rw [el] at eq'; cases eq'
      | some w =>
        rw [el] at eq'
        cases eq'
        obtain ⟨a, dx, vs, f, ev, ef, a1, a2, g1, g2, os, ne, na, nd⟩ := ot.ob_inv
        subst ev
        obtain ⟨v1, f2, l1, o1, i1, rp⟩ := os.part el
        subst ef
        refine ⟨v1, f2, A.next (g := fun w' => .ob D (setF x w' fs)) o1 (fun z m => List.mem_cons_of_mem _ (List.mem_cons_of_mem _ (i1 z m))) fun G' H' t' f' s k o n => ?_, fun Q q => go _ ⟨a, D, dx, vs, v1, rfl, a1, hc, hn, l1, q⟩⟩
        have ka := k a List.mem_cons_self fun z => na (i1 a z)
        have kd := k dx (List.mem_cons_of_mem _ List.mem_cons_self) fun z => nd (i1 dx z)
        obtain ⟨f3, p3, i3⟩ := rp G' H' t' f' s (fun z m m' => k z (List.mem_cons_of_mem _ (List.mem_cons_of_mem _ m)) m') o fun z m => (n z m).imp id fun w m' => w (List.mem_cons_of_mem _ (List.mem_cons_of_mem _ m'))
        have out : ∀ z, z = a ∨ z = dx → z ∉ f3 := fun z ez m => by
          have nz : z ∉ f := by rcases ez with e | e <;> subst e <;> assumption
          rcases i3 z m with ⟨w, _⟩ | w
          · exact nz w
          · rcases n z w with w | w
            · exact nz (i1 z w)
            · rcases ez with e | e <;> subst e
              · exact w List.mem_cons_self
              · exact w (List.mem_cons_of_mem _ List.mem_cons_self)
        refine ⟨a :: dx :: f3, .ob (ka.1 _ a1) (kd.1 _ a2) ka.2 kd.2 p3 ne (out a (.inl rfl)) (out dx (.inr rfl)), fun z m => ?_⟩
        rcases List.mem_cons.mp m with e | m
        · subst e; exact .inl ⟨List.mem_cons_self, fun w => na (i1 _ w)⟩
        · rcases List.mem_cons.mp m with e | m
          · subst e; exact .inl ⟨List.mem_cons_of_mem _ List.mem_cons_self, fun w => nd (i1 _ w)⟩
          · exact (i3 z m).imp (fun ⟨w, w2⟩ => ⟨List.mem_cons_of_mem _ (List.mem_cons_of_mem _ w), w2⟩) id
    · rename_i D ds eu
      rw [eu] at ot
      split at eq'
      case isFalse => cases eq'
      rename_i eD
      subst eD
      cases el : ds.lookup x with
      | none => rw [el] at eq'; cases eq'
      | some d =>
        rw [el] at eq'
        cases eq'
        obtain ⟨rq, rfl⟩ := ot.dat_inv
        obtain ⟨a, dx, vs, ev, ga, rf⟩ := rq.obj_inv
        subst ev
        obtain ⟨v1, l1, r1⟩ := rf.look el
        refine ⟨v1, [], A.next (g := fun _ => q0.u) (.dat r1) (fun z m => nomatch m) ?_, fun Q q => go _ ⟨a, D, dx, vs, v1, rfl, R.co.sub _ _ ga, hc, hn, l1, q⟩⟩
        rw [eu]
        exact Rep.dat rq
    · cases eq'
theorem q_i {p : FQ} {k : Rho → Option Int} (h : PDq X o p) (hk : PDk X b k) (hs : PlainIx b := by exact fun _ _ => rfl) : PDq X (.Subscript o b pos) (qI k p) := by
  obtain ⟨te, h1, h2⟩ := h
  obtain ⟨tk, k1, k2⟩ := hk
  refine ⟨_, pe_ix ix_seq h1 k1 hs, fun B G H σ ρ fp R q eq => ?_⟩
  unfold qI at eq
  cases e0 : p ρ with
  | none => rw [e0] at eq; cases eq
  | some q0 =>
    rw [e0] at eq
    cases ek : k ρ with
    | none => rw [ek] at eq; cases eq
    | some i =>
      rw [ek] at eq
      have eq' : stI i q0 = some q := eq
      obtain ⟨v', f1, A, go⟩ := h2 B G H σ ρ fp R q0 e0
      have gk := k2 B G H σ ρ fp R i ek
      have ot := A.ot
      unfold stI at eq'
      split at eq'
      · rename_i ts eu
        rw [eu] at ot
        obtain ⟨a, vs, f, ev, ef, a1, g1, os, na⟩ := ot.own_inv
        subst ev ef
        cases ej : ixN ts.length i with
        | none => rw [ej] at eq'; cases eq'
        | some j =>
          rw [ej] at eq'
          cases et : ts[j]? with
          | none => simp [et] at eq'
          | some w =>
            simp [et] at eq'
            subst eq'
            obtain ⟨v1, f2, l1, o1, i1, rp⟩ := os.part et
            have ev : atI vs i = some v1 := by unfold atI; rw [os.length, ej]; exact l1
            refine ⟨v1, f2, A.next (g := fun w' => .own (ts.set j w')) o1 (fun z m => List.mem_cons_of_mem _ (i1 z m)) fun G' H' t' f' s k o n => ?_, fun Q q => go _ (gk _ (.inl ⟨a, vs, i, v1, rfl, rfl, .inl (.inl a1), ev, q⟩))⟩
            have ka := k a List.mem_cons_self fun z => na (i1 a z)
            obtain ⟨f3, p3, i3⟩ := rp G' H' t' f' s (fun z m m' => k z (List.mem_cons_of_mem _ m) m') o fun z m => (n z m).imp id fun w m' => w (List.mem_cons_of_mem _ m')
            refine ⟨a :: f3, .own (ka.1 _ a1) ka.2 p3 fun m => ?_, fun z m => ?_⟩
            · rcases i3 a m with ⟨w, _⟩ | w
              · exact na w
              · rcases n a w with w | w
                · exact na (i1 a w)
                · exact w List.mem_cons_self
            · rcases List.mem_cons.mp m with e | m
              · subst e; exact .inl ⟨List.mem_cons_self, fun w => na (i1 _ w)⟩
              · exact (i3 z m).imp (fun ⟨w, w2⟩ => ⟨List.mem_cons_of_mem _ w, w2⟩) id
      · rename_i ts eu
        rw [eu] at ot
        obtain ⟨a, vs, ev, a1, os⟩ := ot.tp_inv
        subst ev
        cases ej : ixN ts.length i with
        | none => rw [ej] at eq'; cases eq'
        | some j =>
          rw [ej] at eq'
          cases et : ts[j]? with
          | none => simp [et] at eq'
          | some w =>
            simp [et] at eq'
            subst eq'
            obtain ⟨v1, f2, l1, o1, i1, rp⟩ := os.part et
            have ev : atI vs i = some v1 := by unfold atI; rw [os.length, ej]; exact l1
            refine ⟨v1, f2, A.next (g := fun w' => .tp (ts.set j w')) o1 i1 fun G' H' t' f' s k o n => ?_, fun Q q => go _ (gk _ (.inr (.inl ⟨a, vs, i, v1, rfl, rfl, R.co.sub.t a1, ev, q⟩)))⟩
            obtain ⟨f3, p3, i3⟩ := rp G' H' t' f' s k o n
            exact ⟨f3, .tp (s.t a1) p3, i3⟩
      · rename_i ds eu
        rw [eu] at ot
        obtain ⟨rq, rfl⟩ := ot.dat_inv
        obtain ⟨a, xs, ev, hh, rs⟩ := rq.lst_inv
        subst ev
        cases ej : atI ds i with
        | none => rw [ej] at eq'; cases eq'
        | some d =>
          rw [ej] at eq'
          cases eq'
          obtain ⟨v1, e1, r1⟩ := atI_rqA rs ej
          refine ⟨v1, [], A.next (g := fun _ => q0.u) (.dat r1) (fun z m => nomatch m) ?_, fun Q q => go _ (gk _ (.inl ⟨a, xs, i, v1, rfl, rfl, .inl (R.co.sub.rd hh), e1, q⟩))⟩
          rw [eu]
          exact Rep.dat rq
      · rename_i ds eu
        rw [eu] at ot
        obtain ⟨rq, rfl⟩ := ot.dat_inv
        obtain ⟨a, xs, ev, hh, rs⟩ := rq.tup_inv
        subst ev
        cases ej : atI ds i with
        | none => rw [ej] at eq'; cases eq'
        | some d =>
          rw [ej] at eq'
          cases eq'
          obtain ⟨v1, e1, r1⟩ := atI_rqA rs ej
          refine ⟨v1, [], A.next (g := fun _ => q0.u) (.dat r1) (fun z m => nomatch m) ?_, fun Q q => go _ (gk _ (.inr (.inl ⟨a, xs, i, v1, rfl, rfl, R.co.sub.t hh, e1, q⟩)))⟩
          rw [eu]
          exact Rep.dat rq
      · cases eq'
end
end DL

namespace DL
open PySem PySem.Spec PyProof.Rows L2
section
variable {K : PySem.W.Frag} {B : Bs} {σ : L2.St} {G H G1 H1 G2 H2 : Hp} {ρ ρ1 : Rho} {fp fp1 : Nat → List Addr}
/-- what a place holds is changed -/
theorem Nxt.repl (R : Rp K B G H σ ρ fp) (n : Nxt K B σ G H fp G1 H1 ρ1 fp1) {q : PV} {v' : V} {f1 : List Addr} (A : At K G1 H1 σ ρ1 fp1 q v' f1) {t' : SV} {g : List Addr}
    (s : Sub G1 G2) (sub : Sub G2 H2) (k : ∀ a, a ∉ f1 → ∀ o, H1 a = some o → H2 a = some o) (hid : ∀ a, a ∉ f1 → ∀ o, H1 a = some o → G1 a = none → G2 a = none) (ot : OT K G2 H2 v' t' g) (new : ∀ a ∈ g, a ∈ f1 ∨ ¬ In fp1 a ∧ (H a = none ∨ In fp a)) :
    ∃ f2, Nxt K B σ G H fp G2 H2 (ρ1.set q.i (some (q.put t'))) (fun j => if j = q.i then f2 else fp1 j) ∧ ∀ a ∈ f2, (a ∈ fp1 q.i ∧ a ∉ f1) ∨ a ∈ g := by
  obtain ⟨t, v, e1, e2, o1, rp⟩ := A.ex
  have il : q.i < ρ1.length := (List.getElem?_eq_some_iff.mp e1).1
  obtain ⟨f2, o2, i2⟩ := rp G2 H2 t' g s (fun a m m' => ⟨k a m', by
    obtain ⟨⟨o, e⟩, g0⟩ := n.rp.co.here ⟨q.i, m⟩
    exact hid a m' o e g0⟩) ot fun a m => (new a m).imp id fun z m' => z.1 ⟨q.i, m'⟩
  have f1in : ∀ a ∈ f1, In fp1 a := fun a m => ⟨q.i, A.sub a m⟩
  have st2 : Stp (In fp1) G1 H1 G2 H2 := ⟨s, fun a o h e => k a (fun m => h (f1in a m)) o e, fun a o h e g0 => hid a (fun m => h (f1in a m)) o e g0⟩
  have hin : ∀ x, In (fun j => if j = q.i then f2 else fp1 j) x → In fp1 x ∨ (H x = none ∨ In fp x) := fun x ⟨j, m⟩ => by
    by_cases e : j = q.i
    · simp only [if_pos e] at m
      rcases i2 x m with ⟨z, _⟩ | z
      · exact .inl ⟨q.i, z⟩
      · rcases new x z with w | w
        · exact .inl (f1in x w)
        · exact .inr w.2
    · simp only [if_neg e] at m
      exact .inl ⟨j, m⟩
  refine ⟨f2, ⟨⟨⟨by rw [List.length_set]; exact n.rp.co.len, sub, fun j t h => ?_, fun j h => ?_, fun j l x m1 m2 => ?_⟩, n.rp.stp.trans st2 n.rp.own, fun x h => ?_, fun j m => ?_, n.rp.lo.trans s⟩, n.st.trans st2 fun x h => n.inn x h, fun x h => ?_⟩, i2⟩
  · by_cases e : j = q.i
    · subst e
      rw [List.getElem?_set_self il] at h
      injection h with h; injection h with h
      subst h
      refine ⟨v, e2, ?_⟩
      simp only [if_true]
      exact o2
    · rw [List.getElem?_set_ne (Ne.symm e)] at h
      obtain ⟨w, w1, ow⟩ := n.rp.co.slot j t h
      refine ⟨w, w1, ?_⟩
      simp only [if_neg e]
      have out : ∀ x ∈ fp1 j, x ∉ f1 := fun x m m' => e (n.rp.co.dis j q.i x m (A.sub x m'))
      exact ow.mono s (fun x m u e => k x (out x m) u e) fun x m => by
        obtain ⟨⟨o, e⟩, g0⟩ := ow.here x m
        exact hid x (out x m) o e g0
  · by_cases e : j = q.i
    · subst e; exact absurd (List.getElem?_set_self il) (h _)
    · simp only [if_neg e]
      exact n.rp.co.nil j fun t z => h t (by rw [List.getElem?_set_ne (Ne.symm e)]; exact z)
  · have key : ∀ {l : Nat}, l ≠ q.i → x ∈ f2 → x ∈ fp1 l → False := fun {l} e2 m1 m2 => by
      rcases i2 x m1 with ⟨z, _⟩ | z
      · exact e2 (n.rp.co.dis l q.i x m2 z)
      · rcases new x z with w | w
        · exact e2 (n.rp.co.dis l q.i x m2 (A.sub x w))
        · exact w.1 ⟨l, m2⟩
    by_cases e1 : j = q.i
    · by_cases e2 : l = q.i
      · rw [e1, e2]
      · simp only [if_pos e1] at m1
        simp only [if_neg e2] at m2
        exact (key e2 m1 m2).elim
    · by_cases e2 : l = q.i
      · simp only [if_neg e1] at m1
        simp only [if_pos e2] at m2
        exact (key e1 m2 m1).elim
      · simp only [if_neg e1] at m1
        simp only [if_neg e2] at m2
        exact n.rp.co.dis j l x m1 m2
  · rcases hin x h with z | z
    · exact n.rp.own x z
    · exact R.base (fr := [x]) (fun y m => by have : y = x := by simpa using m
                                              subst this; exact z) x List.mem_cons_self
  · obtain ⟨w, t, e1, e2, e3⟩ := n.rp.io j m
    by_cases e : j = q.i
    · subst e; exact ⟨w, _, e1, e2, List.getElem?_set_self il⟩
    · exact ⟨w, t, e1, e2, by rw [List.getElem?_set_ne (Ne.symm e)]; exact e3⟩
  · rcases hin x h with z | z
    · exact n.inn x z
    · exact z.symm
theorem At.mono {q : PV} {v' : V} {f1 : List Addr} (A : At K G H σ ρ fp q v' f1) (s : Sub G G1) (k : ∀ a ∈ fp q.i, ∀ o, H a = some o → H1 a = some o) (z : ∀ a ∈ fp q.i, G1 a = none) : At K G1 H1 σ ρ fp q v' f1 := by
  obtain ⟨t, v, e1, e2, o1, rp⟩ := A.ex
  exact ⟨⟨t, v, e1, e2, o1.mono s k z, fun G' H' t' f' s' k' o n => rp G' H' t' f' (s.trans s') (fun a m m' => ⟨fun u e => (k' a m m').1 u (k a m u e), (k' a m m').2⟩) o n⟩, A.ot.mono s (fun a m u e => k a (A.sub a m) u e) fun a m => z a (A.sub a m), A.sub⟩
theorem OTf.put {fr : List Addr} {v : V} {t : SV} {x : Str} (o : OT K G H v t fr) : ∀ {fs : List (Str × SV)} {vs : List (Str × V)} {f : List Addr}, OTf K G H vs fs f → (∀ a ∈ f, a ∉ fr) → ∃ f', OTf K G H (putF x v vs) (putT x t fs) f' ∧ ∀ a ∈ f', a ∈ f ∨ a ∈ fr
  | [], _, _, h, _ => by
    cases h
    exact ⟨fr ++ [], .cons o .nil (fun _ _ z => nomatch z), fun a m => .inr (by simpa using m)⟩
  | (g, y) :: r, _, _, h, d => by
    cases h with
    | cons a b dd =>
      rename_i w ws f1 f2
      rw [putF, putT]
      by_cases e : g = x
      · rw [if_pos e, if_pos e]
        refine ⟨fr ++ f2, .cons o b fun a m m' => d a (List.mem_append_right _ m') m, fun a m => (List.mem_append.mp m).elim .inr fun z => .inl (List.mem_append_right _ z)⟩
      · rw [if_neg e, if_neg e]
        obtain ⟨f', p, i⟩ := OTf.put o b fun a m m' => d a (List.mem_append_right _ m) m'
        refine ⟨f1 ++ f', .cons a p fun z m m' => ?_, fun z m => ?_⟩
        · rcases i z m' with w | w
          · exact dd z m w
          · exact d z (List.mem_append_left _ m) w
        · rcases List.mem_append.mp m with m | m
          · exact .inl (List.mem_append_left _ m)
          · exact (i z m).imp (List.mem_append_right _) id
theorem OTf.length : ∀ {fs : List (Str × SV)} {vs : List (Str × V)} {f : List Addr}, OTf K G H vs fs f → vs.length = fs.length
  | _, _, _, .nil => rfl
  | _, _, _, .cons _ b _ => congrArg (· + 1) (OTf.length b)
end
/-! ### reads at a place -/
@[simp] def fPd (p : FQ) : FV := fun ρ Q => onQ (p ρ) fun q => onDat q.u fun d => Q d ρ
@[simp] def fPs (p : FQ) : FV := fun ρ Q => onQ (p ρ) fun q => Q q.u.data (ρ.set q.i (some (q.put (.dat q.u.data))))
section
variable {X : Cx} {io : List Nat} {e o : Expr} {pos apos cpos : Pos} {p : FQ}
theorem v_pd (h : PDq X e p) : PDv X io e (fPd p) := by
  obtain ⟨te, h1, h2⟩ := h
  refine ⟨te, h1, fun B G H σ ρ fp Qd Q hB R hf k => ?_⟩
  obtain ⟨q, e1, hf⟩ := onQ_of hf
  obtain ⟨d, e2, qq⟩ := onDat_of hf
  obtain ⟨v', f1, A, go⟩ := h2 B G H σ ρ fp R q e1
  have ot := A.ot
  rw [e2] at ot
  exact go Q (k d ρ v' G H fp (Nxt.refl R) ot.dat_inv.1 qq)
/-- what stands there is data from now on -/
theorem v_ps (h : PDq X e p) : PDv X io e (fPs p) := by
  obtain ⟨te, h1, h2⟩ := h
  refine ⟨te, h1, fun B G H σ ρ fp Qd Q hB R hf k => ?_⟩
  obtain ⟨q, e1, qq⟩ := onQ_of hf
  obtain ⟨v', f1, A, go⟩ := h2 B G H σ ρ fp R q e1
  have g0 : ∀ a ∈ f1, G a = none := fun a m => (A.ot.here a m).2
  have rq := A.ot.sealed (sealH_sub (H := H) g0) fun a m o e => by rw [sealH_in m]; exact e
  have sub : Sub (sealH G H f1) H := fun a o e => by
    by_cases m : a ∈ f1
    · rw [sealH_in m] at e; exact e
    · rw [sealH_out m] at e; exact R.co.sub a o e
  obtain ⟨f2, n, _⟩ := Nxt.repl R (Nxt.refl R) A (G2 := sealH G H f1) (H2 := H) (t' := .dat q.u.data) (g := []) (sealH_sub g0) sub (fun a _ o e => e) (fun a m o e g1 => by rw [sealH_out m]; exact g1) (.dat rq) (fun _ m => nomatch m)
  exact go Q (k _ _ v' _ H _ n rq qq)
/-! ### arguments that change nothing that is held -/
abbrev FC := Rho → (SV → Prop) → Prop
def DC (K : PySem.W.Frag) (io : List Nat) (te : TE) (fc : FC) : Prop := ∀ (B : Bs) G H σ ρ fp (Qd : SV → Prop) (Q : VK), B.io = io → Rp K B G H σ ρ fp → fc ρ Qd →
  (∀ r v G' H' fr, Nxt K B σ G H fp G' H' ρ fp → (∀ a o, H a = some o → H' a = some o) → OT K G' H' v r fr → (∀ a ∈ fr, ¬ In fp a) → (∀ a ∈ fr, H a = none) → Qd r → Q v H') → te σ H Q
def PDc (X : Cx) (io : List Nat) (e : Expr) (fc : FC) : Prop := ∃ te, PE X e te ∧ DC X.K io te fc
@[simp] def cFrz (fe : FE) : FC := fun ρ Q => fe (frzR ρ) fun r ρ' => ρ' = frzR ρ ∧ flatT r = true ∧ Q r
@[simp] def cPd (p : FQ) : FC := fun ρ Q => onQ (p ρ) fun q => onDat q.u fun d => Q (.dat d)
theorem c_frz {fe : FE} (h : PDe X io e fe) : PDc X io e (cFrz fe) := by
  obtain ⟨te, h1, h2⟩ := h
  exact ⟨te, h1, fun B G H σ ρ fp Qd Q hB R hf k => frz_core h2 B G H σ ρ fp Qd Q hB R hf fun r v G' H' fr n kp ot o1 o2 _ q => k r v G' H' fr n kp ot o1 o2 q⟩
theorem c_pd (h : PDq X e p) : PDc X io e (cPd p) := by
  obtain ⟨te, h1, h2⟩ := h
  refine ⟨te, h1, fun B G H σ ρ fp Qd Q hB R hf k => ?_⟩
  obtain ⟨q, e1, hf⟩ := onQ_of hf
  obtain ⟨d, e2, qq⟩ := onDat_of hf
  obtain ⟨v', f1, A, go⟩ := h2 B G H σ ρ fp R q e1
  have ot := A.ot
  rw [e2] at ot
  exact go Q (k _ v' G H [] (Nxt.refl R) (fun _ _ e => e) (.dat ot.dat_inv.1) (fun _ m => nomatch m) (fun _ m => nomatch m) qq)
/-! ### changes at a place -/
@[simp] def fPapp (p : FQ) (fc : FC) : FE := fun ρ Q => onQ (p ρ) fun q => onOwn q.u fun ts => ts.length < sizeLine ∧ fc ρ fun r => Q (.dat .non) (ρ.set q.i (some (q.put (.own (ts ++ [r])))))
theorem e_papp {fc : FC} (ho : PDq X o p) (h : PDc X io e fc)
    (hbase : attributeBase o "append" X.env (eval o X.env) = eval o X.env := by rfl)
    (hfew : ((backTo cpos (starEach [e] X.env)).all (fun x => !x.1) && (backToKw cpos (keywordEach [] X.env)).all (fun x => x.1.isSome) && decide ([e].length + ([] : List Keyword).length + (if ([] : List Keyword).isEmpty then 0 else 1) < 30)) = true := by rfl)
    (hline : (apos.endLine == cpos.line) = true := by rfl) (hs : starEach [e] X.env = (false, eval e X.env) :: starEach [] X.env := by rfl) (hplain : (backTo cpos (starEach [] X.env)).any (·.1) = false := by rfl) :
    PDe X io (.Call (.Attribute o "append" apos) [e] [] cpos) (fPapp p fc) := by
  obtain ⟨to, h1, h2⟩ := ho
  obtain ⟨ta, a1, a2⟩ := h
  refine ⟨_, pe_bm PySem.F.plainAttrs_list PySem.F.slot_list_append PySem.F.type_list_append mt_append h1 (pa_cons a1 pa_nil hs) hbase hfew hline hs hplain, fun B G H σ ρ fp Qd Q hB R hf k => ?_⟩
  obtain ⟨q, e1, hf⟩ := onQ_of hf
  obtain ⟨ts, e2, hz, hc⟩ := onOwn_of hf
  obtain ⟨v', f1, A, go⟩ := h2 B G H σ ρ fp R q e1
  have ot := A.ot
  rw [e2] at ot
  obtain ⟨l, vs, f, ev, ef, h0, g0, os, nl⟩ := ot.own_inv
  subst ev ef
  refine go _ ⟨.inl ⟨rfl, _, .inl (.inl h0)⟩, ?_⟩
  refine a2 B G H σ ρ fp _ _ hB R hc fun r v G1 H1 fr n1 kp or o1 o2 qq => ?_
  have A1 := A.mono (G1 := G1) (H1 := H1) n1.st.ex (fun a m u e => kp a u e) (fun a m => (n1.rp.co.here ⟨q.i, m⟩).2)
  have ot1 := A1.ot
  rw [e2] at ot1
  obtain ⟨l', ws, f', ev, ef, h1', g1, os1, nl1⟩ := ot1.own_inv
  have el : l = l' := by injection ev
  subst el
  have efs : f = f' := by injection ef
  subst efs
  have lin : In fp l := ⟨q.i, A.sub l List.mem_cons_self⟩
  have nlr : l ∉ fr := fun m => o1 l m lin
  have dj : ∀ x ∈ f, x ∉ fr := fun x m m' => o1 x m' ⟨q.i, A.sub x (List.mem_cons_of_mem _ m)⟩
  have nap : l ∉ f ++ fr := fun m => (List.mem_append.mp m).elim nl nlr
  have os2 := (os1.snoc or dj).mono (H' := upd H1 l (.lst (ws ++ [v]))) (Sub.refl _) (fun x m u e => by rw [upd_ne (fun z : x = l => nap (z ▸ m))]; exact e) fun x m => ((os1.snoc or dj).here x m).2
  obtain ⟨f2, n2, _⟩ := Nxt.repl R n1 A1 (G2 := G1) (H2 := upd H1 l (.lst (ws ++ [v]))) (t' := .own (ts ++ [r])) (Sub.refl _) (fun x u e => by
      rw [upd_ne (fun z : x = l => by rw [z, g1] at e; cases e)]; exact n1.rp.co.sub x u e)
    (fun x h u e => by rw [upd_ne (fun z : x = l => h (z ▸ List.mem_cons_self))]; exact e) (fun x _ u _ g => g) (.own upd_same g1 os2 nap) fun x m => by
      rcases List.mem_cons.mp m with z | m
      · exact .inl (z ▸ List.mem_cons_self)
      · rcases List.mem_append.mp m with m | m
        · exact .inl (List.mem_cons_of_mem _ m)
        · exact .inr ⟨o1 x m, .inl (o2 x m)⟩
  exact ⟨l, ws, v, rfl, rfl, h1', by rw [os1.length]; exact hz, k _ _ _ _ _ _ [] n2 (.dat .non) (fun _ z => nomatch z) (fun _ z => nomatch z) qq⟩
@[simp] def fPpop (p : FQ) : FE := fun ρ Q => onQ (p ρ) fun q => onOwn q.u fun ts => ∃ t, ts[ts.length - 1]? = some t ∧ Q t (ρ.set q.i (some (q.put (.own ts.dropLast))))
theorem e_ppop (ho : PDq X o p) (hbase : attributeBase o "pop" X.env (eval o X.env) = eval o X.env := by rfl) (hline : (apos.endLine == cpos.line) = true := by rfl) : PDe X io (.Call (.Attribute o "pop" apos) [] [] cpos) (fPpop p) := by
  obtain ⟨to, h1, h2⟩ := ho
  refine ⟨_, pe_bm0 PySem.F.plainAttrs_list PySem.F.slot_list_pop PySem.F.type_list_pop mt_pop h1 hbase hline, fun B G H σ ρ fp Qd Q hB R hf k => ?_⟩
  obtain ⟨q, e1, hf⟩ := onQ_of hf
  obtain ⟨ts, e2, t, el, qq⟩ := onOwn_of hf
  obtain ⟨v', f1, A, go⟩ := h2 B G H σ ρ fp R q e1
  have ot := A.ot
  rw [e2] at ot
  obtain ⟨l, vs, f, ev, ef, h0, g0, os, nl⟩ := ot.own_inv
  subst ev ef
  have sp := last_split el
  rw [sp] at os
  obtain ⟨ws, w, f1, f2, ev, os1, ow, d12, i1, i2⟩ := os.unsnoc
  subst ev
  refine go _ ⟨.inl ⟨rfl, _, .inl (.inl h0)⟩, l, _, w, rfl, rfl, h0, by simp, ?_⟩
  have e3 : (ws ++ [w]).dropLast = ws := by simp
  rw [e3]
  have nl1 : l ∉ f1 := fun m => nl (i1 l m)
  have nl2 : l ∉ f2 := fun m => nl (i2 l m)
  have up1 : OTs X.K G (upd H l (.lst ws)) ws ts.dropLast f1 := os1.mono (Sub.refl _) (fun x m u e => by rw [upd_ne (fun z : x = l => nl1 (z ▸ m))]; exact e) fun x m => (os1.here x m).2
  obtain ⟨f3, n2, i3⟩ := Nxt.repl R (Nxt.refl R) A (G2 := G) (H2 := upd H l (.lst ws)) (t' := .own ts.dropLast) (Sub.refl _) (fun x u e => by
      rw [upd_ne (fun z : x = l => by rw [z, g0] at e; cases e)]; exact R.co.sub x u e)
    (fun x h u e => by rw [upd_ne (fun z : x = l => h (z ▸ List.mem_cons_self))]; exact e) (fun x _ u _ g => g) (.own upd_same g0 up1 nl1) fun x m => by
      rcases List.mem_cons.mp m with z | m
      · exact .inl (z ▸ List.mem_cons_self)
      · exact .inl (List.mem_cons_of_mem _ (i1 x m))
  refine k t _ w _ _ _ f2 n2 (ow.mono (Sub.refl _) (fun x m u e => by rw [upd_ne (fun z : x = l => nl2 (z ▸ m))]; exact e) fun x m => (ow.here x m).2) (fun x m ⟨j, z⟩ => ?_) (fun x m => .inr ⟨q.i, A.sub x (List.mem_cons_of_mem _ (i2 x m))⟩) qq
  have xin : x ∈ fp q.i := A.sub x (List.mem_cons_of_mem _ (i2 x m))
  by_cases e : j = q.i
  · simp only [if_pos e] at z
    rcases i3 x z with ⟨_, w2⟩ | w2
    · exact w2 (List.mem_cons_of_mem _ (i2 x m))
    · rcases List.mem_cons.mp w2 with y | y
      · exact nl2 (y ▸ m)
      · exact d12 x y m
  · simp only [if_neg e] at z
    exact e (R.co.dis j q.i x z xin)
/-- o.x = e -/
@[simp] def fPfld (C : Addr) (x : Str) (p : FQ) (fe : FE) : FS := fun D ρ => fe ρ fun r ρ1 => onQ (p ρ1) fun q => onOb C q.u fun fs => fs.length < 1000 ∧ D.nx (ρ1.set q.i (some (q.put (.ob C (putT x r fs)))))
theorem s_pfld {C : Addr} {x : Str} {fe : FE} {pos2 : Pos} (hc : Cls X.K C) (hn : NoAttr X.K C x) (ho : PDq X o p) (hv : PDe X io e fe) (hs : swapsWith e (some (.Attribute o x pos2)) pos.line X.env = pure false := by rfl) : PDs X io (.Assign [.Attribute o x pos2] e pos) (fPfld C x p fe) := by
  obtain ⟨to, h1, h2⟩ := ho
  obtain ⟨ta, a1, a2⟩ := hv
  refine ⟨_, ps_fld h1 a1 hs, fun B G H σ ρ fp Dd Dh hB R hf sm => ?_⟩
  refine a2 B G H σ ρ fp _ _ hB R hf fun r ρ1 v G1 H1 fp1 fr n1 or o1 o2 hf => ?_
  obtain ⟨q, e1, hf⟩ := onQ_of hf
  obtain ⟨fs, e2, hl, qq⟩ := onOb_of hf
  obtain ⟨v', f1, A, go⟩ := h2 B G1 H1 σ ρ1 fp1 n1.rp q e1
  have ot := A.ot
  rw [e2] at ot
  obtain ⟨a, dx, vs, f, ev, ef, a1', a2', g1, g2, os, ne, na, nd⟩ := ot.ob_inv
  subst ev ef
  have ain : In fp1 a := ⟨q.i, A.sub a List.mem_cons_self⟩
  have din : In fp1 dx := ⟨q.i, A.sub dx (List.mem_cons_of_mem _ List.mem_cons_self)⟩
  have dj : ∀ z ∈ f, z ∉ fr := fun z m m' => o1 z m' ⟨q.i, A.sub z (List.mem_cons_of_mem _ (List.mem_cons_of_mem _ m))⟩
  obtain ⟨f3, p3, i3⟩ := OTf.put (x := x) or os dj
  have na3 : a ∉ f3 := fun m => (i3 a m).elim na fun z => o1 a z ain
  have nd3 : dx ∉ f3 := fun m => (i3 dx m).elim nd fun z => o1 dx z din
  have up3 : OTf X.K G1 (upd H1 a (.ins C dx (putF x v vs))) (putF x v vs) (putT x r fs) f3 := p3.mono (Sub.refl _) (fun z m u e => by rw [upd_ne (fun w : z = a => na3 (w ▸ m))]; exact e) fun z m => (p3.here z m).2
  refine go _ ⟨a, C, dx, vs, rfl, a1', hc, hn, by rw [os.length]; exact hl, ?_⟩
  obtain ⟨f4, n4, _⟩ := Nxt.repl R n1 A (G2 := G1) (H2 := upd H1 a (.ins C dx (putF x v vs))) (t' := .ob C (putT x r fs)) (Sub.refl _) (fun z u e => by
      rw [upd_ne (fun w : z = a => by rw [w, g1] at e; cases e)]; exact n1.rp.co.sub z u e)
    (fun z h u e => by rw [upd_ne (fun w : z = a => h (w ▸ List.mem_cons_self))]; exact e) (fun z _ u _ g => g)
    (.ob upd_same (by rw [upd_ne (Ne.symm ne)]; exact a2') g1 g2 up3 ne na3 nd3) fun z m => by
      rcases List.mem_cons.mp m with w | m
      · exact .inl (w ▸ List.mem_cons_self)
      · rcases List.mem_cons.mp m with w | m
        · exact .inl (w ▸ List.mem_cons_of_mem _ List.mem_cons_self)
        · rcases i3 z m with w | w
          · exact .inl (List.mem_cons_of_mem _ (List.mem_cons_of_mem _ w))
          · exact .inr ⟨o1 z w, o2 z w⟩
  exact sm.nx _ _ _ _ _ n4.rp qq
/-- tuple(e): of a list just made, its trees stay owned; data is as it was -/
@[simp] def fTupT (fe : FE) : FE := fun ρ Q => fe ρ fun t ρ1 => (∃ ts, t = .own ts ∧ Q (.tp ts) ρ1) ∨ ∃ ds, (t.data = .lst ds ∨ t.data = .tup ds) ∧ Q (.dat (.tup ds)) ρ1
theorem e_tupT {fe : FE} {p2 : Pos} (hm : X.mg "tuple" = none) (ha : PDe X io e fe) (hg : Gl X "tuple" := by rfl) (he : starEach [e] X.env = (false, eval e X.env) :: starEach [] X.env := by rfl) (hpl : (backTo pos (starEach [] X.env)).any (·.1) = false := by rfl) : PDe X io (.Call (.Name "tuple" p2) [e] [] pos) (fTupT fe) := by
  obtain ⟨ta, a1, a2⟩ := ha
  refine ⟨_, pe_callTy call_tuple_of hg hm (by decide +kernel) (pa_cons a1 pa_nil he) (by decide) (by decide) he hpl, fun B G H σ ρ fp Qd Q hB R hf k => ?_⟩
  refine a2 B G H σ ρ fp _ _ hB R hf fun t ρ1 v1 G1 H1 fp1 fr n1 ot t1 t2 q => ?_
  rcases q with ⟨ts, rfl, q⟩ | ⟨ds, e1, q⟩
  · obtain ⟨a, vs, f, ev, ef, h1, g1, os, na⟩ := ot.own_inv
    subst ev ef
    refine ⟨a, vs, rfl, .inl ⟨.inl (.inl h1), fun l hl => ?_⟩⟩
    have n3 := n1.trans (Nxt.stand n1.rp (o := .tup vs) hl)
    have gl : G1 l = none := by
      cases e : G1 l with
      | none => rfl
      | some u => have := n1.rp.co.sub _ _ e; rw [hl] at this; cases this
    have nf : ∀ x ∈ f, x ≠ l := fun x m z => by
      obtain ⟨⟨o, e⟩, _⟩ := os.here x m
      rw [z, hl] at e; cases e
    refine k _ _ _ _ _ _ f n3 (.tp (.inl (.inl upd_same)) (os.mono (fun x o e => by rw [upd_ne (ne_of_none e gl)]; exact e) (fun x m o e => by rw [upd_ne (nf x m)]; exact e) fun x m => by rw [upd_ne (nf x m)]; exact (os.here x m).2)) (fun x m => t1 x (List.mem_cons_of_mem _ m)) (fun x m => t2 x (List.mem_cons_of_mem _ m)) q
  · obtain ⟨n2, r⟩ := Nxt.sealed R n1 ot t1 t2
    rcases e1 with e1 | e1
    · rw [e1] at r
      obtain ⟨p, xs, ev, h, rs⟩ := r.lst_inv
      refine ⟨p, xs, by rw [ev], .inl ⟨.inl (n2.rp.co.sub.rd h), fun l hl => ?_⟩⟩
      have n3 := n2.trans (Nxt.stand n2.rp (o := .tup xs) hl)
      refine k _ _ _ _ _ _ [] n3 (.dat (.tup (.inl (.inl upd_same)) (rs.mono fun a o e => ?_))) (fun _ z => nomatch z) (fun _ z => nomatch z) q
      have ne : a ≠ l := fun z => by
        have := n2.rp.co.sub _ _ e
        rw [z, hl] at this; cases this
      rw [upd_ne ne]; exact e
    · rw [e1] at r
      obtain ⟨p, xs, ev, h, rs⟩ := r.tup_inv
      exact ⟨p, xs, by rw [ev], .inr ⟨n2.rp.co.sub.t h, k _ _ _ _ _ _ [] n2 (.dat (.tup h rs)) (fun _ z => nomatch z) (fun _ z => nomatch z) q⟩⟩
end
end DL

namespace DL
open PySem PySem.Spec PyProof.Rows L2
/-! ### instances that are called, methods, making with names -/
/-- values and names that stand in the order of the parameters -/
def BndI (K : PySem.W.Frag) (fd : FuncData) (ps ks : List Str) : Prop := ∀ (s : Shared) (us ws : List Value), K.In s.heap → ws.length = ks.length → us.length + ws.length = ps.length → BindsTo s fd ⟨us, ks.zip ws⟩ (ps.zip (us ++ ws))
/-- .. in any order behind self -/
def BndP (K : PySem.W.Frag) (fd : FuncData) (ps ks : List Str) (n : Nat) (ix : List Nat) : Prop := ∀ (s : Shared) (u : Value) (us ws : List Value), K.In s.heap → us.length = n → ws.length = ks.length → BindsTo s fd ⟨u :: us, ks.zip ws⟩ (ps.zip (u :: gP n ks.length ix us ws))
section
variable {M : Model} {A : Around} {E : Value → Shared → Prop} {s : Shared} {a : Addr} {pos : Pos} {Q : Value → Shared → Prop}
theorem call_inst {args : List (Bool × Sem Value)} {kws : List (Option Str × Sem Value)} (pl : (args.any (·.1) || kws.any (·.1.isNone)) = false)
    (go : wpAny M A (evalArgs (.ref a) true args kws) (fun z t => (∃ C ox od, PySem.W.InstAt t.heap a ox C od ∧ ox.data = .plain) ∧ wpAny M A (call (.ref a) ([] ++ z.pos) z.kw) Q E t) E s) : wpAny M A (callWith pos (.ref a) [] args kws) Q E s := by
  unfold callWith
  refine wpAny_bind (wpAny_holding (wpAny_mono go (fun z t ht => wpAny_bind (wpAny_standAt ?_)) fun _ _ y => y))
  obtain ⟨⟨C, ox, od, J, hp⟩, hc⟩ := ht
  have ka := PySem.W.kco_keeper (M := M) J hp
  simp only [pl]
  refine wpAny_bind (ka.here ?_)
  have rest : ∀ {p : Sem Value}, wpAny M A p Q E t → wpAny M A (p >>= fun r => holding [r] point >>= fun _ => pure r) Q E t := fun hp =>
    wpAny_bind (wpAny_mono hp (fun r u hr => wpAny_bind (wpAny_holding (wpAny_point (wpAny_pure hr)))) fun _ _ y => y)
  exact rest (wpAny_operateT hc)
end
section
variable {X : Cx} {CX : CXT} {k n : Nat} {C g f : Addr} {fd : FuncData} {ps ks : List Str} {sp : Sp} {E : XK} {x m : Str} {e o : Expr} {es : List Expr} {kws : List Keyword} {pos p pn apos : Pos} {ta tf : TE} {t tk : TA}
theorem run_inst {pins : List (Addr × Obj)} {σ : L2.St} {H : Hp} {s : Shared} {Q : VK} {a dx : Addr} {fs : List (Str × V)} {us ws : List Value} {vs zs : List V} (c : StX.CallO X.K C g) (F : FnG X.prog X.w X.K X.mg X.base CX k g fd ps sp) (hr : RoomG k X.A) (hb : BndI X.K fd ps ks) (hx : Passes CX X E)
    (I : Inv X pins σ H s) (ha : H a = some (.ins C dx fs)) (r : Vals vs us) (rz : Vals zs ws) (lz : zs.length = ks.length) (q : sp (.ref a :: (vs ++ zs)) H Q E) : wpAny (model X.prog X.w) X.A (call (.ref a) us (ks.zip ws)) (EP X pins σ Q) X.xe s := by
  obtain ⟨mA, O, _⟩ := ins_get I.hok ha
  obtain ⟨od, J, _⟩ := O.look
  have rs : Vals (V.ref a :: (vs ++ zs)) (Value.ref a :: (us ++ ws)) := .cons rfl (r.append rz)
  have ln := F.len _ _ _ _ q
  rw [rs.length] at ln
  have bd := hb s (.ref a :: us) ws I.kIn (by rw [← lz, rz.length]) (by simpa [Nat.add_right_comm] using ln)
  refine wpAny_call (PySem.W.kco_code I.kIn J rfl c.at_ c.fn c.fi (codeAny_mono (F.run X.A X.stack s H ⟨.ref a :: us, ks.zip ws⟩ (.ref a :: (us ++ ws)) (.ref a :: (vs ++ zs)) Q E hr I.env0 bd rs q) fun r s' hq => ?_))
  cases r with
  | error er => exact hx pins σ H s er s' I hq
  | ok fl =>
    cases fl with
    | ret u => exact I.after hq
    | next => exact hq.elim
    | brk => exact hq.elim
    | cont => exact hq.elim
def tInst (C : Addr) (n : Nat) (sp : Sp) (E : XK) (tf : TE) (t : TA) : TE := fun σ H Q => tf σ H fun y H1 => ∃ a, y = .ref a ∧ t σ H1 fun vs H2 => vs.length = n ∧ (∃ dx fs, H2 a = some (.ins C dx fs)) ∧ sp (.ref a :: vs) H2 Q E
theorem ins_at {pins : List (Addr × Obj)} {σ : L2.St} {H : Hp} {s : Shared} {a dx : Addr} {fs : List (Str × V)} (I : Inv X pins σ H s) (h : H a = some (.ins C dx fs)) : ∃ D ox od, PySem.W.InstAt s.heap a ox D od ∧ ox.data = .plain := by
  obtain ⟨mA, O, _⟩ := ins_get I.hok h
  obtain ⟨od, J, _⟩ := O.look
  exact ⟨_, _, _, J, rfl⟩
/-- x(e, ..), x a name that holds an instance -/
theorem pe_instP (hf : PE X (.Name x pn) tf) (c : StX.CallO X.K C g) (F : FnG X.prog X.w X.K X.mg X.base CX k g fd ps sp) (hr : RoomG k X.A) (hb : BndI X.K fd ps []) (hx : Passes CX X E) (ha : PA X (e :: es) t)
    (he : starEach (e :: es) X.env = (false, eval e X.env) :: starEach es X.env) (hpl : (backTo pos (starEach es X.env)).any (·.1) = false) : PE X (.Call (.Name x pn) (e :: es) [] pos) (tInst C n sp E tf t) := by
  refine ⟨fun pins s σ H Q I h => wpAny_Call_Name_kw (thn (hf.run pins s σ H _ I h) fun u s1 ⟨y, H1, I1, ry, a, ey, q⟩ => ?_)⟩
  subst ey
  cases ry
  have hA := ha.run pos pins s1 σ H1 _ I1 q
  rw [he] at hA ⊢
  refine call_inst (by show ((false || (backTo pos (starEach es X.env)).any (·.1)) || false) = false; rw [hpl] <;> rfl) (PySem.Calls.evalArgs_plain (thn hA fun us s2 ⟨vs, H2, I2, r, hl, ⟨dx, fs, hi⟩, q2⟩ => ?_))
  exact ⟨ins_at I2 hi, run_inst (ks := []) (ws := []) (zs := []) c F hr hb hx I2 hi r .nil rfl (by rw [List.append_nil]; exact q2)⟩
/-- x(k = e) -/
theorem pe_instK (hf : PE X (.Name x pn) tf) (c : StX.CallO X.K C g) (F : FnG X.prog X.w X.K X.mg X.base CX k g fd ps sp) (hr : RoomG k X.A) (hb : BndI X.K fd ps ks) (hx : Passes CX X E) (hkw : PK X kws tk)
    (hall : (backToKw pos (keywordEach kws X.env)).all (·.1.isSome) = true) (hks : (backToKw pos (keywordEach kws X.env)).filterMap (·.1) = ks)
    (hpl : ((backTo pos (starEach [] X.env)).any (·.1) || (backToKw pos (keywordEach kws X.env)).any (·.1.isNone)) = false) : PE X (.Call (.Name x pn) [] kws pos) (tInst C ks.length sp E tf tk) := by
  refine ⟨fun pins s σ H Q I h => wpAny_Call_Name_kw (thn (hf.run pins s σ H _ I h) fun u s1 ⟨y, H1, I1, ry, a, ey, q⟩ => ?_)⟩
  subst ey
  cases ry
  refine call_inst hpl (evalArgs_kw2_nil hall (thn (hkw.run pos pins s1 σ H1 _ I1 q) fun ws s2 ⟨zs, H2, I2, rz, hl, ⟨dx, fs, hi⟩, q2⟩ => ?_))
  rw [hks]
  exact ⟨ins_at I2 hi, run_inst (us := []) (vs := []) c F hr hb hx I2 hi .nil rz hl q2⟩
def tMethE (C : Addr) (m : Str) (sp : Sp) (E : XK) (ta : TE) (t : TA) : TE := fun σ H Q => ta σ H fun y H1 => ∃ a dx fs, y = .ref a ∧ H1 a = some (.ins C dx fs) ∧ fs.lookup m = none ∧ t σ H1 fun vs H2 => sp (.ref a :: vs) H2 Q E
theorem pe_methG {pl : Sem Bool} (he : PE X o ta) (c : Cls X.K C) (hm : Meth X.K C m f) (F : FnG X.prog X.w X.K X.mg X.base CX k f fd ps sp) (hr : RoomG k X.A) (hb : Binds X.K fd ps []) (hx : Passes CX X E) (ha : PA X (e :: es) t)
    (hst : starEach (e :: es) X.env = (false, eval e X.env) :: starEach es X.env) (hpl : (backTo pos (starEach es X.env)).any (·.1) = false)
    (ht : eval (.Call (.Attribute o m apos) (e :: es) [] pos) X.env = (do
      let ov ← eval o X.env
      standAt apos.atName
      let (f, first) ← holding [ov] (getMethod ov m pl)
      callWith pos f first (backTo pos (starEach (e :: es) X.env)) (backToKw pos (keywordEach [] X.env)))) : PE X (.Call (.Attribute o m apos) (e :: es) [] pos) (tMethE C m sp E ta t) := by
  refine ⟨fun pins s σ H Q I h => PySem.W.methodCall_KW (pl := pl) (thn (he.run pins s σ H _ I h) fun u s1 ⟨y, H1, I1, ry, a, dx, fs, ey, hi, hl, q⟩ => ?_) ht⟩
  subst ey
  cases ry
  refine getmeth_ok I1 hi c hm hl (PySem.W.callWith_K (first := [.ref a]) (h₀ := X.base) I.ok.mod.kin hm.kp (thn (ha.run pos pins s1 σ H1 _ I1 q) fun us s2 ⟨vs, H2, I2, r, q2⟩ => ⟨I2.kIn, ?_⟩) hst hpl)
  exact run_fnG (us := .ref a :: us) (vs := .ref a :: vs) F hr hb hx I2 (.cons rfl r) q2
theorem pe_methG0 {pl : Sem Bool} (he : PE X o ta) (c : Cls X.K C) (hm : Meth X.K C m f) (F : FnG X.prog X.w X.K X.mg X.base CX k f fd ps sp) (hr : RoomG k X.A) (hb : Binds X.K fd ps []) (hx : Passes CX X E)
    (ht : eval (.Call (.Attribute o m apos) [] [] pos) X.env = (do
      let ov ← eval o X.env
      standAt apos.atName
      let (f, first) ← holding [ov] (getMethod ov m pl)
      callWith pos f first (backTo pos (starEach [] X.env)) (backToKw pos (keywordEach [] X.env)))) : PE X (.Call (.Attribute o m apos) [] [] pos) (tMethE C m sp E ta tNil) := by
  refine ⟨fun pins s σ H Q I h => PySem.W.methodCall_KW (pl := pl) (thn (he.run pins s σ H _ I h) fun u s1 ⟨y, H1, I1, ry, a, dx, fs, ey, hi, hl, q⟩ => ?_) ht⟩
  subst ey
  cases ry
  exact getmeth_ok I1 hi c hm hl (PySem.W.callWith_K0 (first := [.ref a]) I1.kIn hm.kp (run_fnG (us := [.ref a]) (vs := [.ref a]) F hr hb hx I1 (.cons rfl .nil) q))
theorem run_makeP {pins : List (Addr × Obj)} {σ : L2.St} {H : Hp} {s : Shared} {Q : VK} {us ws : List Value} {vs zs : List V} {ix : List Nat} (M : Mk X.K C f) (F : FnG X.prog X.w X.K X.mg X.base CX k f fd ps sp) (hr : RoomG (k + 1) X.A) (hb : BndP X.K fd ps ks n ix)
    (hx : Passes CX X E) (I : Inv X pins σ H s) (r : Vals vs us) (rz : Vals zs ws) (l1 : vs.length = n) (l2 : zs.length = ks.length)
    (h : ∀ x dx, H x = none → H dx = none → dx ≠ x → sp (.ref x :: gP n ks.length ix vs zs) (upd (upd H dx (.own x)) x (.ins C dx [])) (fun v H2 => v = .non ∧ Q (.ref x) H2) E) :
    wpAny (model X.prog X.w) X.A (call (.ref C) us (ks.zip ws)) (EP X pins σ Q) X.xe s := by
  have q := h (s.heap.objs.size + 1) s.heap.objs.size (I.hok.fresh (Nat.le_succ _)) (I.hok.fresh (Nat.le_refl _)) (Nat.ne_of_lt (Nat.lt_succ_self _))
  have J := Inv.made (C := C) I
  have rs : Vals (V.ref (s.heap.objs.size + 1) :: gP n ks.length ix vs zs) (Value.ref (s.heap.objs.size + 1) :: gP n ks.length ix us ws) := .cons rfl (Vals.gP r rz)
  have bd := hb _ (Value.ref (s.heap.objs.size + 1)) us ws J.kIn (r.length.symm.trans l1) (rz.length.symm.trans l2)
  refine wpAny_call (make_map (f := f) I.kIn M.makes M.init (beq_iff_eq.mp M.fn) (codeAny_mono (F.run _ X.stack _ _ ⟨Value.ref (s.heap.objs.size + 1) :: us, ks.zip ws⟩ _ _ _ E (hr.make C us (ks.zip ws))
    (J.env0.make C us (ks.zip ws)) bd rs q) fun r s' hq => ?_))
  cases r with
  | error er => exact hx pins σ _ _ er s' J hq
  | ok fl =>
    cases fl with
    | next => exact hq.elim
    | brk => exact hq.elim
    | cont => exact hq.elim
    | ret u =>
      obtain ⟨v, H', I3, rv, ev, q3⟩ := J.after hq
      subst ev
      exact ⟨rv, ⟨V.ref (s.heap.objs.size + 1), H', I3, rfl, q3⟩⟩
def tMakeP (C : Addr) (n m : Nat) (ix : List Nat) (sp : Sp) (E : XK) (t tk : TA) : TE := fun σ H Q => t σ H fun vs H1 => tk σ H1 fun zs H2 => vs.length = n ∧ zs.length = m ∧ ∀ x dx, H2 x = none → H2 dx = none → dx ≠ x →
  sp (.ref x :: gP n m ix vs zs) (upd (upd H2 dx (.own x)) x (.ins C dx [])) (fun v H3 => v = .non ∧ Q (.ref x) H3) E
theorem pe_makeP0 {ix : List Nat} (M : Mk X.K C f) (F : FnG X.prog X.w X.K X.mg X.base CX k f fd ps sp) (hr : RoomG (k + 1) X.A) (hg : Gl X x) (hm : X.mg x = some (.ref C)) (hb : BndP X.K fd ps ks 0 ix) (hx : Passes CX X E)
    (hkw : PK X kws tk) (hall : (backToKw pos (keywordEach kws X.env)).all (·.1.isSome) = true) (hks : (backToKw pos (keywordEach kws X.env)).filterMap (·.1) = ks) (hdb : (x == ("__debug__" : Str)) = false)
    (hpl : ((backTo pos (starEach [] X.env)).any (·.1) || (backToKw pos (keywordEach kws X.env)).any (·.1.isNone)) = false) : PE X (.Call (.Name x p) [] kws pos) (tMakeP C 0 ks.length ix sp E tNil tk) := by
  refine ⟨fun pins s σ H Q I h => wpAny_Call_Name_kw (ld_glob I hg hm ?_ hdb)⟩
  refine PySem.W.callWith_KW0 (h₀ := X.base) I.ok.mod.kin M.kp hall (thn (hkw.run pos pins s σ H _ I h) ?_) hpl
  rintro ws s2 ⟨zs, H2, I2, rz, l1, l2, q2⟩
  refine ⟨I2.kIn, ?_⟩
  rw [hks]
  exact run_makeP (us := []) M F hr hb hx I2 .nil rz l1 l2 q2
end
end DL

namespace DL
open PySem PySem.Spec PyProof.Rows L2
/-! ### calls of instances and methods, by data -/
theorem call_core {K : PySem.W.Frag} {B : Bs} {σ : L2.St} {G H G1 H1 : Hp} {ρ ρ1 : Rho} {fp fp1 : Nat → List Addr} {F : Ctr} {avs : List AV} {as : List SV} {vs : List V} {fr : List Addr} {Qd : SV → Rho → Prop} {Q : VK} {E : XK}
    (R : Rp K B G H σ ρ fp) (n1 : Nxt K B σ G H fp G1 H1 ρ1 fp1) (ar : AVR K G1 H1 σ vs avs fr) (t1 : ∀ a ∈ fr, ¬ In fp1 a) (t2 : ∀ a ∈ fr, H a = none ∨ In fp a) (ha : resA ρ1 avs = some as) (nd : (refs avs).Nodup)
    (hF : F as fun r as' => Qd r (wb ρ1 avs as'))
    (k : ∀ r ρ' v G' H' fp' fr, Nxt K B σ G H fp G' H' ρ' fp' → OT K G' H' v r fr → (∀ a ∈ fr, ¬ In fp' a) → (∀ a ∈ fr, H a = none ∨ In fp a) → Qd r ρ' → Q v H') : spD K F vs H1 Q E := by
  obtain ⟨g, cg, hg, l1, l2, hr⟩ := args_co n1.rp.co ar t1 nd ha
  have hfr : ∀ a ∈ fr, In B.fp0 a ∨ B.H0 a = none := fun a m => R.base t2 a m
  refine ⟨G1, as, g, _, cg, hF, fun r as' v G' H' g' fr' c' st inn ot d1 d2 q => ?_⟩
  have hl : as'.length = as.length := by
    have e1 := c'.len
    have e2 := cg.len
    simp at e1 e2
    omega
  obtain ⟨fp2, R2, st2, in2, cl⟩ := back_co n1.rp t1 hfr nd ha hg l2 hr c' st inn hl
  have back : ∀ a, H1 a = none → H a = none ∨ In fp a := fun a z => by
    by_cases q : In fp a
    · exact .inr q
    · exact .inl (n1.st.fresh q z)
  have back1 : ∀ a, In fp1 a → H a = none ∨ In fp a := fun a z => (n1.inn a z).symm
  have old : ∀ a, In g a → In fp1 a ∨ a ∈ fr := fun a ⟨k, m⟩ => (hg k a m).elim (fun ⟨m, _⟩ => .inr m) fun ⟨i, _, m⟩ => .inl ⟨i, m⟩
  have gb : ∀ a, In g a → H a = none ∨ In fp a := fun a z => (old a z).elim (back1 a) (t2 a)
  refine k r _ v G' H' fp2 fr' ⟨R2, n1.st.trans st2 fun a z => z.elim (n1.inn a) fun z => (t2 a z).symm, fun a z => ?_⟩ ot (fun a m z => ?_) (fun a m => ?_) q
  · rcases in2 a z with z | z | z
    · exact (back1 a z).symm
    · exact (back a z).symm
    · exact (t2 a z).symm
  · rcases cl a z with z | ⟨z, nz⟩
    · exact d1 a m z
    · rcases d2 a m with y | y
      · obtain ⟨⟨o, e⟩, _⟩ := n1.rp.co.here z
        rw [y] at e; cases e
      · exact nz y
  · exact (d2 a m).elim (back a) (gb a)
theorem AVR.length {K : PySem.W.Frag} {G H : Hp} {σ : L2.St} : ∀ {vs : List V} {as : List AV} {fr : List Addr}, AVR K G H σ vs as fr → vs.length = as.length
  | _, _, _, .nil => rfl
  | _, _, _, .val _ b _ => congrArg (· + 1) b.length
  | _, _, _, .ref _ b => congrArg (· + 1) b.length
theorem Rp.obAt {K : PySem.W.Frag} {B : Bs} {σ : L2.St} {G H : Hp} {ρ : Rho} {fp : Nat → List Addr} (R : Rp K B G H σ ρ fp) {i : Nat} {C : Addr} {fs : List (Str × SV)} (h : ρ[i]? = some (some (.ob C fs))) : ∃ a dx vs f, σ[i]? = some (some (.ref a)) ∧ H a = some (.ins C dx vs) ∧ OTf K G H vs fs f := by
  obtain ⟨v, e1, ot⟩ := R.co.slot i _ h
  obtain ⟨a, dx, vs, f, ev, ef, h1, _, _, _, os, _⟩ := ot.ob_inv
  subst ev
  exact ⟨a, dx, vs, f, e1, h1, os⟩
theorem OTf.none {K : PySem.W.Frag} {G H : Hp} {x : Str} : ∀ {fs : List (Str × SV)} {vs : List (Str × V)} {f : List Addr}, OTf K G H vs fs f → fs.lookup x = none → vs.lookup x = none
  | [], _, _, h, _ => by cases h; rfl
  | (g, y) :: r, _, _, h, e => by
    cases h with
    | cons a b d =>
      rw [List.lookup_cons] at e ⊢
      cases q : x == g with
      | true => rw [q] at e; cases e
      | false =>
        rw [q] at e
        exact OTf.none b e
theorem RqF.none {K : PySem.W.Frag} {G : Hp} {x : Str} : ∀ {ds : List (Str × DD)} {vs : List (Str × V)}, RqF K G vs ds → ds.lookup x = none → vs.lookup x = none
  | [], _, h, _ => by cases h; rfl
  | (g, y) :: r, _, h, e => by
    cases h with
    | cons a b =>
      rw [List.lookup_cons] at e ⊢
      cases q : x == g with
      | true => rw [q] at e; cases e
      | false =>
        rw [q] at e
        exact RqF.none b e
/-- an instance may be called, and is worth F -/
def Hin_ (P : Program) (w : World) (K : PySem.W.Frag) (mg : Str → Option Value) (base : Heap) (C : Addr) (ps ks : List Str) (k : Nat) (F : Ctr) : Prop :=
  ∃ g fd, StX.CallO K C g ∧ BndI K fd ps ks ∧ FnG P w K mg base CX0 k g fd ps (spD K F)
/-- the class has the method -/
def Hme_ (P : Program) (w : World) (K : PySem.W.Frag) (mg : Str → Option Value) (base : Heap) (C : Addr) (m : Str) (ps : List Str) (k : Nat) (F : Ctr) : Prop :=
  ∃ g fd, Cls K C ∧ Meth K C m g ∧ Binds K fd ps [] ∧ FnG P w K mg base CX0 k g fd ps (spD K F)
/-- the class is made with names -/
def HmP_ (P : Program) (w : World) (K : PySem.W.Frag) (mg : Str → Option Value) (base : Heap) (C : Addr) (x : Str) (ps ks : List Str) (ix : List Nat) (k : Nat) (F : Ctr) : Prop :=
  ∃ f fd, mg x = some (.ref C) ∧ Mk K C f ∧ BndP K fd ps ks 0 ix ∧ FnG P w K mg base CX0 k f fd ps (spD K F)
@[simp] def fInst (C : Addr) (F : Ctr) (i : Nat) (fa : FAs) : FE := fun ρ Q => (∃ fs, ρ[i]? = some (some (.ob C fs))) ∧ fa ρ fun avs ρ1 => (∃ fs, ρ1[i]? = some (some (.ob C fs))) ∧ ∃ as, resA ρ1 (.ref i :: avs) = some as ∧ (refs (.ref i :: avs)).Nodup ∧ F as fun r as' => Q r (wb ρ1 (.ref i :: avs) as')
def PDkA (X : Cx) (io : List Nat) (kws : List Keyword) (fa : FAs) : Prop := ∃ ta, PK X kws ta ∧ DAs X.K io ta fa
section
variable {X : Cx} {io : List Nat} {C : Addr} {x m : Str} {ps ks : List Str} {k : Nat} {F : Ctr} {e o : Expr} {es : List Expr} {kws : List Keyword} {fa : FAs} {pos pn apos p : Pos} {nm : Option Str} {kpos : Pos}
theorem de_inst {K : PySem.W.Frag} {t : TA} {n : Nat} {E : XK} {i : Nat} (hn : ∀ ρ Q, fa ρ Q → fa ρ fun avs ρ1 => avs.length = n ∧ Q avs ρ1) (a2 : DAs K io t fa) : DE K io (tInst C n (spD K F) E (tVar i) t) (fInst C F i fa) := by
  intro B G H σ ρ fp Qd Q hB R hf kk
  obtain ⟨⟨fs, e0⟩, hf⟩ := hf
  obtain ⟨a, dx, vs0, f0, s0, h0, _⟩ := R.obAt e0
  refine ⟨.ref a, s0, a, rfl, ?_⟩
  refine a2 B G H σ ρ fp _ _ hB R (hn _ _ hf) fun avs ρ1 vs G1 H1 fp1 fr n1 ar t1 t2 ⟨ln, ⟨fs1, e1⟩, as, ha, nd, q⟩ => ?_
  obtain ⟨a', dx', vs1, f1, s1, h1, _⟩ := n1.rp.obAt e1
  have : a = a' := by rw [s0] at s1; injection s1 with z; injection z with z; injection z
  subst this
  exact ⟨by rw [ar.length, ln], ⟨dx', vs1, h1⟩, call_core R n1 (.ref s0 ar) t1 t2 ha nd q kk⟩
theorem len_val {fe : FE} {fr : FAs} {n : Nat} (h : ∀ ρ Q, fr ρ Q → fr ρ fun avs ρ1 => avs.length = n ∧ Q avs ρ1) (mono : ∀ ρ (Q Q' : SV → Rho → Prop), (∀ r ρ', Q r ρ' → Q' r ρ') → fe ρ Q → fe ρ Q') : ∀ ρ Q, aVal fe fr ρ Q → aVal fe fr ρ fun avs ρ1 => avs.length = n + 1 ∧ Q avs ρ1 := fun ρ Q q =>
  mono _ _ _ (fun r ρ' z => by
    have := h _ _ z
    simpa using this) q
theorem kA_nil : PDkA X io [] aNil := ⟨_, pk_nil, fun B G H σ ρ fp Qd Q hB R hf k => k _ _ _ _ _ _ [] (Nxt.refl R) .nil (fun _ z => nomatch z) (fun _ z => nomatch z) hf⟩
theorem kA_ref {te : TE} (i : Nat) (h : PE X e te) (ht : te = tVar i) : PDkA X io [⟨nm, e, kpos⟩] (aRef i aNil) := by
  subst ht
  refine ⟨_, pk_cons h pk_nil, fun B G H σ ρ fp Qd Q hB R hf k => ?_⟩
  obtain ⟨⟨t, e0⟩, q⟩ := hf
  obtain ⟨v, s0, _⟩ := R.co.slot i t e0
  exact ⟨v, s0, k _ _ _ _ _ _ [] (Nxt.refl R) (.ref s0 .nil) (fun _ z => nomatch z) (fun _ z => nomatch z) q⟩
/-- x(y), y a slot -/
theorem e_inst1 {i j : Nat} {te tj : TE} (h : Hin_ X.prog X.w X.K X.mg X.base C ps [] k F) (hr : RoomG k X.A) (hf : PE X (.Name x pn) te) (hte : te = tVar i) (hj : PE X e tj) (htj : tj = tVar j)
    (he : starEach [e] X.env = (false, eval e X.env) :: starEach [] X.env := by rfl) (hpl : (backTo pos (starEach [] X.env)).any (·.1) = false := by rfl) : PDe X io (.Call (.Name x pn) [e] [] pos) (fInst C F i (aRef j aNil)) := by
  subst hte
  obtain ⟨g, fd, c, hb, hF⟩ := h
  obtain ⟨t, a1, a2⟩ := a_ref (io := io) (fr := aNil) j hj htj a_nil he
  exact ⟨_, pe_instP (n := 1) hf c hF hr hb pass0 a1 he hpl, de_inst (n := 1) (fun ρ Q q => ⟨q.1, by simpa using q.2⟩) a2⟩
/-- x(k = y) -/
theorem e_instK1 {i j : Nat} {te tj : TE} {z : Str} (h : Hin_ X.prog X.w X.K X.mg X.base C ps [z] k F) (hr : RoomG k X.A) (hf : PE X (.Name x pn) te) (hte : te = tVar i) (hj : PE X e tj) (htj : tj = tVar j)
    (hall : (backToKw pos (keywordEach [⟨some z, e, kpos⟩] X.env)).all (·.1.isSome) = true := by rfl) (hks : (backToKw pos (keywordEach [⟨some z, e, kpos⟩] X.env)).filterMap (·.1) = [z] := by rfl)
    (hpl : ((backTo pos (starEach [] X.env)).any (·.1) || (backToKw pos (keywordEach [⟨some z, e, kpos⟩] X.env)).any (·.1.isNone)) = false := by rfl) : PDe X io (.Call (.Name x pn) [] [⟨some z, e, kpos⟩] pos) (fInst C F i (aRef j aNil)) := by
  subst hte
  obtain ⟨g, fd, c, hb, hF⟩ := h
  obtain ⟨t, a1, a2⟩ := kA_ref (io := io) (nm := some z) (kpos := kpos) j hj htj
  exact ⟨_, pe_instK hf c hF hr hb pass0 a1 hall hks hpl, de_inst (n := 1) (fun ρ Q q => ⟨q.1, by simpa using q.2⟩) a2⟩
/-- x.m(), x a slot that is changed -/
@[simp] def fMeth0 (C : Addr) (m : Str) (F : Ctr) (i : Nat) : FE := fun ρ Q => ∃ fs, ρ[i]? = some (some (.ob C fs)) ∧ fs.lookup m = none ∧ F [.ob C fs] fun r as' => Q r (wb ρ [.ref i] as')
theorem e_meth0 {i : Nat} {te : TE} {pl : Sem Bool} (h : Hme_ X.prog X.w X.K X.mg X.base C m ps k F) (hr : RoomG k X.A) (ho : PE X o te) (hte : te = tVar i)
    (ht : eval (.Call (.Attribute o m apos) [] [] pos) X.env = (do
      let ov ← eval o X.env
      standAt apos.atName
      let (f, first) ← holding [ov] (getMethod ov m pl)
      callWith pos f first (backTo pos (starEach [] X.env)) (backToKw pos (keywordEach [] X.env))) := by rfl) : PDe X io (.Call (.Attribute o m apos) [] [] pos) (fMeth0 C m F i) := by
  subst hte
  obtain ⟨g, fd, c, hm, hb, hF⟩ := h
  refine ⟨_, pe_methG0 ho c hm hF hr hb pass0 ht, fun B G H σ ρ fp Qd Q hB R hf kk => ?_⟩
  obtain ⟨fs, e0, hl, q⟩ := hf
  obtain ⟨a, dx, vs0, f0, s0, h0, os⟩ := R.obAt e0
  exact ⟨.ref a, s0, a, dx, vs0, rfl, h0, os.none hl, call_core (E := fun _ _ _ => False) R (Nxt.refl R) (.ref s0 .nil) (fun _ z => nomatch z) (fun _ z => nomatch z) (as := [.ob C fs]) (by simp [e0]) (by simp) q kk⟩
/-- o.m(e, ..), all data -/
@[simp] def fMethD (C : Addr) (m : Str) (F : Ctr) (fo : FO) (fd : FDs) : FE := fun ρ Q => fo ρ fun z ρ1 => ∃ ds, resT ρ1 z = some (.dat (.obj C ds)) ∧ ds.lookup m = none ∧ fd ρ1 fun es ρ2 => F (.dat (.obj C ds) :: es.map .dat) fun r _ => Q r ρ2
theorem de_methD {K : PySem.W.Frag} {fo : FO} {fd : FDs} {to : TE} {t : TA} {E : XK} (o2 : DO K io to fo) (a2 : DAd K io t fd) : DE K io (tMethE C m (spD K F) E to t) (fMethD C m F fo fd) := by
  intro B G H σ ρ fp Qd Q hB R hf kk
  refine o2 B G H σ ρ fp _ _ hB R hf fun z ρ1 v G1 H1 fp1 n1 o1 ⟨ds, e1, hl, hf⟩ => ?_
  obtain ⟨f, ot, _⟩ := o1.tree n1.rp e1
  have rq := ot.dat_inv.1
  obtain ⟨a, dx, fs, ev, ga, rf⟩ := rq.obj_inv
  subst ev
  refine ⟨a, dx, fs, rfl, n1.rp.co.sub _ _ ga, rf.none hl, ?_⟩
  refine a2 B G1 H1 σ ρ1 fp1 _ _ hB n1.rp hf fun es ρ2 vs G2 H2 fp2 n2 rs q => ?_
  refine spD_data (ds := .obj C ds :: es) n2.rp (.cons (rq.mono n2.st.ex) rs) q fun r as' v G' H' fr n3 ot2 s1 s2 q2 => ?_
  have n4 := n1.trans n2
  exact kk r ρ2 v G' H' fp2 fr (n4.trans n3) ot2 s1 (fun b m => by
    by_cases z : In fp b
    · exact .inr z
    · exact .inl (n4.st.fresh z (s2 b m))) q2
theorem e_methD0 {fo : FO} {pl : Sem Bool} (h : Hme_ X.prog X.w X.K X.mg X.base C m ps k F) (hr : RoomG k X.A) (ho : PDo X io o fo)
    (ht : eval (.Call (.Attribute o m apos) [] [] pos) X.env = (do
      let ov ← eval o X.env
      standAt apos.atName
      let (f, first) ← holding [ov] (getMethod ov m pl)
      callWith pos f first (backTo pos (starEach [] X.env)) (backToKw pos (keywordEach [] X.env))) := by rfl) : PDe X io (.Call (.Attribute o m apos) [] [] pos) (fMethD C m F fo kNil) := by
  obtain ⟨g, fd, c, hm, hb, hF⟩ := h
  obtain ⟨to, o1, o2⟩ := ho
  exact ⟨_, pe_methG0 (E := fun _ _ _ => False) o1 c hm hF hr hb pass0 ht, de_methD o2 da_nil⟩
theorem e_methD {fo : FO} {fd' : FDs} {pl : Sem Bool} (h : Hme_ X.prog X.w X.K X.mg X.base C m ps k F) (hr : RoomG k X.A) (ho : PDo X io o fo) (ha : PDpa X io (e :: es) fd')
    (hst : starEach (e :: es) X.env = (false, eval e X.env) :: starEach es X.env := by rfl) (hpl : (backTo pos (starEach es X.env)).any (·.1) = false := by rfl)
    (ht : eval (.Call (.Attribute o m apos) (e :: es) [] pos) X.env = (do
      let ov ← eval o X.env
      standAt apos.atName
      let (f, first) ← holding [ov] (getMethod ov m pl)
      callWith pos f first (backTo pos (starEach (e :: es) X.env)) (backToKw pos (keywordEach [] X.env))) := by rfl) : PDe X io (.Call (.Attribute o m apos) (e :: es) [] pos) (fMethD C m F fo fd') := by
  obtain ⟨g, fd, c, hm, hb, hF⟩ := h
  obtain ⟨to, o1, o2⟩ := ho
  obtain ⟨t, a1, a2⟩ := ha
  exact ⟨_, pe_methG (E := fun _ _ _ => False) o1 c hm hF hr hb pass0 a1 hst hpl ht, de_methD o2 a2⟩
end
/-! #### making with names -/
theorem make_core {K : PySem.W.Frag} {B : Bs} {σ : L2.St} {G H G1 H1 : Hp} {ρ ρ1 : Rho} {fp fp1 : Nat → List Addr} {F : Ctr} {C : Addr} {ds : List DD} {vs : List V} {Qd : SV → Rho → Prop} {Q : VK} {E : XK}
    (R : Rp K B G H σ ρ fp) (n1 : Nxt K B σ G H fp G1 H1 ρ1 fp1) (rq : RqA K G1 vs ds) (q : F (.ob C [] :: ds.map .dat) fun r as' => r = .dat .non ∧ ∃ t rest, as' = t :: rest ∧ Qd t ρ1)
    (k : ∀ r ρ' v G' H' fp' fr, Nxt K B σ G H fp G' H' ρ' fp' → OT K G' H' v r fr → (∀ a ∈ fr, ¬ In fp' a) → (∀ a ∈ fr, H a = none ∨ In fp a) → Qd r ρ' → Q v H') :
    ∀ p dx, H1 p = none → H1 dx = none → dx ≠ p → spD K F (.ref p :: vs) (upd (upd H1 dx (.own p)) p (.ins C dx [])) (fun v H2 => v = .non ∧ Q (.ref p) H2) E := by
  intro p dx hp hd hne
  have gp : G1 p = none := by
    cases e : G1 p with
    | none => rfl
    | some u => have := n1.rp.co.sub _ _ e; rw [hp] at this; cases this
  have gd : G1 dx = none := by
    cases e : G1 dx with
    | none => rfl
    | some u => have := n1.rp.co.sub _ _ e; rw [hd] at this; cases this
  generalize hH : upd (upd H1 dx (.own p)) p (.ins C dx []) = H2
  have h2p : H2 p = some (.ins C dx []) := by rw [← hH]; exact upd_same
  have h2d : H2 dx = some (.own p) := by rw [← hH, upd_ne hne]; exact upd_same
  have h2o : ∀ a o, H1 a = some o → H2 a = some o := fun a o e => by
    rw [← hH, upd_ne (ne_of_none e hp), upd_ne (ne_of_none e hd)]; exact e
  have h2n : ∀ a, H2 a = none → H1 a = none := fun a e => by
    cases z : H1 a with
    | none => rfl
    | some o => rw [h2o a o z] at e; cases e
  let g : Nat → List Addr := fun i => if i = 0 then [p, dx] else []
  have gin : ∀ a, In g a → a = p ∨ a = dx := fun a ⟨i, m⟩ => by
    by_cases e : i = 0
    · simp [g, e] at m; exact m
    · simp [g, e] at m
  have gn1 : ∀ a, In g a → H1 a = none := fun a m => by
    rcases gin a m with e | e
    · rw [e]; exact hp
    · rw [e]; exact hd
  refine ⟨G1, .ob C [] :: ds.map .dat, g, _, ⟨by simp [rq.length], fun a o e => h2o a o (n1.rp.co.sub a o e), fun i t e => ?_, fun i e => ?_, fun i j a m1 m2 => ?_⟩, q, fun r as' v G' H' fp' fr' c st inn ot d1 d2 ⟨er, t', rest, ea, q2⟩ => ?_⟩
  · cases i with
    | zero =>
      have : SV.ob C [] = t := by simpa using e
      subst this
      exact ⟨.ref p, rfl, .ob h2p h2d gp gd .nil (fun z => hne z.symm) (fun z => nomatch z) (fun z => nomatch z)⟩
    | succ i =>
      have e' : (ds.map SV.dat)[i]? = some t := by simpa using e
      rw [List.getElem?_map] at e'
      cases h : ds[i]? with
      | none => rw [h] at e'; cases e'
      | some d =>
        rw [h] at e'
        have : SV.dat d = t := by simpa using e'
        subst this
        obtain ⟨u, hu, ru⟩ := rq.get h
        exact ⟨u, by simp [hu], .dat ru⟩
  · cases i with
    | zero => exact absurd rfl (e (.ob C []))
    | succ i => rfl
  · cases i with
    | zero =>
      cases j with
      | zero => rfl
      | succ j => cases m2
    | succ i => cases m1
  · subst er ea
    refine ⟨ot.dat_inv.1.non_inv, ?_⟩
    obtain ⟨z, ez, o0⟩ := c.slot 0 t' rfl
    have : z = .ref p := by simpa using ez.symm
    subst this
    have keep : ∀ a o, H1 a = some o → H' a = some o := fun a o e => st.keep a o (fun m => by rw [gn1 a m] at e; cases e) (h2o a o e)
    have hid : ∀ a o, H1 a = some o → G1 a = none → G' a = none := fun a o e g0 => st.hid a o (fun m => by rw [gn1 a m] at e; cases e) (h2o a o e) g0
    have fresh : ∀ a ∈ fp' 0, H1 a = none := fun a m => (inn a ⟨0, m⟩).elim (gn1 a) (h2n a)
    have st2 : Stp (In fp1) G1 H1 G' H' := ⟨st.ex, fun a o _ e => keep a o e, fun a o _ e g0 => hid a o e g0⟩
    have n2 : Nxt K B σ G1 H1 fp1 G' H' ρ1 fp1 := ⟨⟨n1.rp.co.grow st.ex (fun a _ o e => keep a o e) (fun a m => by
      obtain ⟨⟨o, e⟩, g0⟩ := n1.rp.co.here m
      exact hid a o e g0) c.sub, n1.rp.stp.trans st2 n1.rp.own, n1.rp.own, n1.rp.io, n1.rp.lo.trans st.ex⟩, st2, fun _ m => .inl m⟩
    refine k t' ρ1 (.ref p) G' H' fp1 (fp' 0) (n1.trans n2) o0 (fun a m z => ?_) (fun a m => ?_) q2
    · obtain ⟨⟨o, e⟩, _⟩ := n1.rp.co.here z
      rw [fresh a m] at e; cases e
    · by_cases z : In fp a
      · exact .inr z
      · exact .inl (n1.st.fresh z (fresh a m))
section
variable {X : Cx} {io : List Nat} {C : Addr} {x : Str} {ps ks : List Str} {ix : List Nat} {k : Nat} {F : Ctr} {kws : List Keyword} {fk : FDs} {pos pn : Pos}
@[simp] def fMakeP (C : Addr) (F : Ctr) (m : Nat) (ix : List Nat) (fk : FDs) : FE := fun ρ Q => fk ρ fun es ρ1 => es.length = m ∧ F (.ob C [] :: (gP 0 m ix [] es).map .dat) fun r as' => r = .dat .non ∧ ∃ t rest, as' = t :: rest ∧ Q t ρ1
theorem e_makeP (h : HmP_ X.prog X.w X.K X.mg X.base C x ps ks ix k F) (hr : RoomG (k + 1) X.A) (hkw : PDkw X io kws fk) (hg : Gl X x := by rfl) (hdb : (x == ("__debug__" : Str)) = false := by decide)
    (hall : (backToKw pos (keywordEach kws X.env)).all (·.1.isSome) = true := by rfl) (hks : (backToKw pos (keywordEach kws X.env)).filterMap (·.1) = ks := by rfl)
    (hpl : ((backTo pos (starEach [] X.env)).any (·.1) || (backToKw pos (keywordEach kws X.env)).any (·.1.isNone)) = false := by rfl) : PDe X io (.Call (.Name x pn) [] kws pos) (fMakeP C F ks.length ix fk) := by
  obtain ⟨f, fd, hm, M, hb, hF⟩ := h
  obtain ⟨t, a1, a2⟩ := hkw
  refine ⟨_, pe_makeP0 (E := fun _ _ _ => False) M hF hr hg hm hb pass0 a1 hall hks hdb hpl, fun B G H σ ρ fp Qd Q hB R hf kk => ?_⟩
  refine a2 B G H σ ρ fp _ _ hB R hf fun es ρ1 zs G1 H1 fp1 n1 rs ⟨le, q⟩ => ?_
  exact ⟨rfl, by rw [rs.length, le], make_core R n1 (RqA.gP .nil rs) q kk⟩
end
end DL

namespace DL
open PySem PySem.Spec PyProof.Rows L2
section
variable {K : PySem.W.Frag} {f C : Addr} {fd : FuncData} {x qual : Str} {params : Arguments} {body : List Stmt} {scope : Scope} {ps ks : List Str} {n : Nat} {ix : List Nat}
theorem bndP_of (F : FunD K x qual params body scope [] [] f fd)
    (hb : ∀ (kV doc pm : Value) (an : Option Addr) (cdv ct u : Value) (us ws : List Value), us.length = n → ws.length = ks.length → bindArgs (PySem.W.fnOf x qual params body scope .none kV doc pm an cdv ct) ⟨u :: us, ks.zip ws⟩ = pure (ps.zip (u :: gP n ks.length ix us ws))) : BndP K fd ps ks n ix := by
  intro s u us ws _ l1 l2
  obtain ⟨oc, od, dV, kV, doc, pm, an, cdv, ct, osl, rfl, lk, hcd, hD, hK⟩ := F.ex
  rcases hD with ⟨_, rfl⟩ | ⟨e, _⟩
  · exact PySem.BindsTo.of_eq (hb kV doc pm an cdv ct u us ws l1 l2)
  · exact absurd rfl e
theorem bndI_of (F : FunD K x qual params body scope [] [] f fd)
    (hb : ∀ (kV doc pm : Value) (an : Option Addr) (cdv ct : Value) (us ws : List Value), ws.length = ks.length → us.length + ws.length = ps.length → bindArgs (PySem.W.fnOf x qual params body scope .none kV doc pm an cdv ct) ⟨us, ks.zip ws⟩ = pure (ps.zip (us ++ ws))) : BndI K fd ps ks := by
  intro s us ws _ l1 l2
  obtain ⟨oc, od, dV, kV, doc, pm, an, cdv, ct, osl, rfl, lk, hcd, hD, hK⟩ := F.ex
  rcases hD with ⟨_, rfl⟩ | ⟨e, _⟩
  · exact PySem.BindsTo.of_eq (hb kV doc pm an cdv ct us ws l1 l2)
  · exact absurd rfl e
theorem callO_of (F : FunD K x qual params body scope [] [] f fd) (m : Meth K C "__call__" f) : StX.CallO K C f := by
  refine ⟨m.at_, m.fn, ?_⟩
  obtain ⟨oc, od, dV, kV, doc, pm, an, cdv, ct, osl, rfl, lk, hcd, hD, hK⟩ := F.ex
  unfold PySem.W.fnIn
  rw [lk]
end
end DL

namespace DL
open PySem PySem.Spec PyProof.Rows L2
/-! ### zip of a list and a tuple -/
/-- the list at a and the tuple at b, item by item -/
def ItM (K : PySem.W.Frag) (a b : Addr) (xs ys : List V) : It where
  go := fun i H => ∃ x y, SqL K H a xs ∧ SqT K H b ys ∧ xs[i]? = some x ∧ ys[i]? = some y
  yld := fun i H v H' => ∃ T x y, v = .ref T ∧ H T = none ∧ H' = upd H T (.tup [x, y]) ∧ xs[i]? = some x ∧ ys[i]? = some y
  stop := fun i H => SqL K H a xs ∧ SqT K H b ys ∧ (xs.length ≤ i ∨ ys.length ≤ i)
/-- zip's five cells as they stand at turn i -/
structure MixAt (a b : Addr) (n m N i : Nat) (h : Heap) : Prop where
  z : IsZip h (N + 4) (N + 2) (N + 3) .none
  p : IsTupOf2 h (N + 2) (.ref N) (.ref (N + 1))
  o : ∃ x y, IsTupOf2 h (N + 3) x y
  l : h.IsListIter N a i
  t : h.IsTupleIter (N + 1) b i
  le : i ≤ n ∧ i ≤ m
def mixC (N : Nat) : List Addr := [N + 4, N + 2, N + 3, N, N + 1]
theorem mixC_of {N c : Nat} (m : c ∈ mixC N) : c = N + 4 ∨ c = N + 2 ∨ c = N + 3 ∨ c = N ∨ c = N + 1 := by simpa [mixC] using m
theorem mixC_out {N c : Nat} (m : c ∉ mixC N) : c ≠ N + 4 ∧ c ≠ N + 3 ∧ c ≠ N ∧ c ≠ N + 1 := by
  refine ⟨fun e => m ?_, fun e => m ?_, fun e => m ?_, fun e => m ?_⟩ <;> simp [mixC, e]
theorem mixC_le {N c : Nat} (m : c ∈ mixC N) : N ≤ c ∧ c ≤ N + 4 := by
  rcases mixC_of m with q | q | q | q | q <;> subst q <;> exact ⟨by simp, by simp⟩
theorem adN (N j k : Nat) (h : j ≠ k) : N + j ≠ N + k := by omega
theorem one_lt {a N : Nat} (h : a < N) : ∀ c ∈ [a], c < N := fun c m => by
  have : c = a := by simpa using m
  rw [this]; exact h
theorem mix_turn {P : Program} {w : World} {K : PySem.W.Frag} {elts : List Expr} {kk : Nat} {tpos : Pos} {a b N : Nat} {xs ys : List V} (ha : a < N) (hb : b < N) :
    Turn P w K (.Tuple elts kk tpos) (ItM K a b xs ys) (mixC N) (N + 4) (MixAt a b xs.length ys.length N) where
  mem := by simp [mixC]
  obj := fun i h st c m => by
    obtain ⟨u1, e1, _, d1⟩ := st.l
    obtain ⟨u2, e2, _, d2⟩ := st.t
    obtain ⟨x, y, e3⟩ := st.o
    rcases mixC_of m with q | q | q | q | q <;> rw [q]
    · exact ⟨_, st.z, fun v z => nomatch z⟩
    · exact ⟨_, st.p, fun v z => nomatch z⟩
    · exact ⟨_, e3, fun v z => nomatch z⟩
    · exact ⟨u1, e1, fun v z => by rw [d1] at z; cases z⟩
    · exact ⟨u2, e2, fun v z => by rw [d2] at z; cases z⟩
  keep := fun i h h' st k => by
    obtain ⟨x, y, e3⟩ := st.o
    exact ⟨k (N + 4) (by simp [mixC]) _ st.z, k (N + 2) (by simp [mixC]) _ st.p, ⟨x, y, k (N + 3) (by simp [mixC]) _ e3⟩, st.l.at fun u e => k N (by simp [mixC]) u e, st.t.at fun u e => k (N + 1) (by simp [mixC]) u e, st.le⟩
  item := by
    rintro X rfl rfl rfl hc i pins s σ H E I hf st ⟨x, y, hl, ht, hx, hy⟩
    obtain ⟨us, ru, pl, _⟩ := I.list hl
    obtain ⟨vs, rv, pt, _⟩ := I.tuple ht
    obtain ⟨u, hu, r1⟩ := ru.get hx
    obtain ⟨v, hv, r2⟩ := rv.get hy
    obtain ⟨p0, p1, e3⟩ := st.o
    have hd : X.A.in1.handled = none := I.ok.hd hc
    have iu : i < us.toArray.size := by simpa using (List.getElem?_eq_some_iff.mp hu).1
    have iv : i < vs.toArray.size := by simpa using (List.getElem?_eq_some_iff.mp hv).1
    have sz : N + 4 < s.heap.objs.size := Heap.lt_size st.z
    have sep := zip_sep2 (N := N) (one_lt ha) (one_lt hb)
    refine wpAny_pyNext_zipD2_item sep (Draws.list hd N a (Nat.ne_of_lt ha) us.toArray) (Draws.tuple hd (N + 1) b (Nat.ne_of_lt (Nat.lt_succ_of_lt hb)) vs.toArray) st.z st.p e3 ⟨st.l, pl.isList⟩ ⟨st.t, pt⟩ iu iv
      fun x1 x2 h' tk y1 y2 z' TO' s1 s2 hT hsz hk => ⟨_, rfl, wpAny_letOwnedTupleGo_zip (s := { s with heap := h', toks := tk }) z' fun g zg sb => ?_⟩
    have eu : u = x1 := by
      have : us[i]? = some x1 := by simpa using y1
      rw [hu] at this; injection this
    have ev : v = x2 := by
      have : vs[i]? = some x2 := by simpa using y2
      rw [hv] at this; injection this
    subst eu ev
    have hT2 : g.get? s.heap.objs.size = some { cls := .type "tuple", data := .seq #[u, v] } := (sb.2 _ (Nat.ne_of_gt (Nat.lt_of_lt_of_le sz (Nat.le_refl _)))).trans hT
    have new : ObjOk X.prog X.w (upd H s.heap.objs.size (.tup [x, y])) g s.heap.objs.size (.tup [x, y]) := ⟨by show 2 ≤ sizeLine; decide, [u, v], .cons r1 (.cons r2 .nil), ⟨_, hT2, rfl, _, rfl⟩⟩
    have J : Inv X pins σ (upd H s.heap.objs.size (.tup [x, y])) { s with heap := g, toks := tk } := I.turnedNew (t' := tk) (ch := mixC N) (fun c o m e => by
      obtain ⟨c1, c2, c3, c4⟩ := mixC_out m
      exact (sb.2 c c1).trans (hk c o c1 c2 c3 c4 e)) hf (Nat.le_refl _) new
    refine ⟨.ref s.heap.objs.size, _, J, rfl, ⟨_, x, y, rfl, I.hok.fresh (Nat.le_refl _), rfl, hx, hy⟩, ⟨zg, (sb.2 _ (adN N 2 4 (by decide))).trans (hk _ _ (adN N 2 4 (by decide)) (adN N 2 3 (by decide)) (adN N 2 0 (by decide)) (adN N 2 1 (by decide)) st.p), ⟨u, v, (sb.2 _ (adN N 3 4 (by decide))).trans TO'⟩,
      s1.1.at fun o e => (sb.2 _ (adN N 0 4 (by decide))).trans e, s2.1.at fun o e => (sb.2 _ (adN N 1 4 (by decide))).trans e, ?_⟩, fun c m => ?_⟩
    · have := (List.getElem?_eq_some_iff.mp hx).1
      have := (List.getElem?_eq_some_iff.mp hy).1
      omega
    · have lt : c < s.heap.objs.size := Nat.lt_of_le_of_lt (mixC_le m).2 sz
      rw [upd_ne (Nat.ne_of_lt lt)]
      exact (hf c m).1
  done := by
    rintro X rfl rfl rfl hc i pins s σ H E I hf st ⟨hl, ht, hend⟩
    obtain ⟨us, ru, pl, _⟩ := I.list hl
    obtain ⟨vs, rv, pt, _⟩ := I.tuple ht
    obtain ⟨p0, p1, e3⟩ := st.o
    have hd : X.A.in1.handled = none := I.ok.hd hc
    have l1 := ru.length
    have l2 := rv.length
    have le := st.le
    have sep := zip_sep2 (N := N) (one_lt ha) (one_lt hb)
    exact wpAny_pyNext_zipD2_end sep (Draws.list hd N a (Nat.ne_of_lt ha) us.toArray) (Draws.tuple hd (N + 1) b (Nat.ne_of_lt (Nat.lt_succ_of_lt hb)) vs.toArray) st.z st.p e3 ⟨st.l, pl.isList⟩ ⟨st.t, pt⟩ (by simp; omega) (by simp; omega) (by simp; omega)
      fun h' tk hk => ⟨rfl, I.turnedL (t' := tk) (ch := mixC N) (fun c o m e => by
        obtain ⟨c1, c2, c3, c4⟩ := mixC_out m
        exact hk c o c1 c2 c3 c4 e) hf⟩
  self := fun A i s Q E st h => wpAny_pyIter_zip st.z h
def iMix (K : PySem.W.Frag) (ta : TA) : TI := fun σ H R => ta σ H fun vs H1 => ∃ a b xs ys, vs = [.ref a, .ref b] ∧ SqL K H1 a xs ∧ SqT K H1 b ys ∧ R (ItM K a b xs ys) H1
theorem pi_mix {X : Cx} {e e2 : Expr} {ta : TA} {p pos tpos : Pos} {elts : List Expr} {kk : Nat} (hg : Gl X "zip") (hm : X.mg "zip" = none) (ha : PA X [e, e2] ta)
    (hs : starEach [e, e2] X.env = (false, eval e X.env) :: starEach [e2] X.env) (hpl : (backTo pos (starEach [e2] X.env)).any (·.1) = false) :
    PI X (.Tuple elts kk tpos) (.Call (.Name "zip" p) [e, e2] [] pos) (iMix X.K ta) := by
  refine ⟨fun pins s σ H R I h => Call_ (ld_blt I hg hm PyProof.Rows.boot_zip (PyProof.Rows.callWith_type1 (thn (ha.run pos pins s σ H _ I h) fun us s1 ⟨vs, H1, I1, r1, q⟩ => ?_) hs hpl))⟩
  obtain ⟨a, b, xs, ys, ex, hl, ht, q⟩ := q
  subst ex
  obtain ⟨c, d, rfl, rc, rd⟩ := Vals.two r1
  cases rc
  cases rd
  obtain ⟨its, _, pl, _⟩ := I1.list hl
  obtain ⟨its2, _, pt, _⟩ := I1.tuple ht
  obtain ⟨o2, ho2, _⟩ := id pt
  refine zip_begins2 (begins_list a its.toArray) (begins_tuple b its2.toArray) pl.isList pt fun h' z1 z2 z3 g1 g2 hsz hk => wpAny_pyIter_zip z1 ?_
  have J : Inv X pins σ H1 { s1 with heap := h' } := I1.kept (t' := s1.toks) hk
  refine ⟨s1.heap.objs.size + 4, mixC s1.heap.objs.size, _, _, H1, rfl, J, mix_turn pl.lt (Heap.lt_size ho2), ⟨z1, z2, ⟨_, _, z3⟩, ⟨_, g1, rfl, rfl⟩, ⟨_, g2, rfl, rfl⟩, Nat.zero_le _, Nat.zero_le _⟩, fun c m => ?_, q⟩
  have le : s1.heap.objs.size ≤ c := (mixC_le m).1
  exact I1.fpOk le (I1.hok.fresh le)
theorem dj_mix {K : PySem.W.Frag} {G : Hp} {a b : Addr} {xs ys : List V} {ds es : List DD} (h : Rd G a (.lst xs)) (r : RqA K G xs ds) (h2 : SqT K G b ys) (r2 : RqA K G ys es) : DJ K (ItM K a b xs ys) G (zipD ds es) := fun B i G' H' σ ρ fp s R => by
  have hl : SqL K H' a xs := .inl (R.co.sub.rd (s.rd h))
  have hl2 : SqT K H' b ys := R.co.sub.t (s.t h2)
  refine ⟨fun le => ⟨hl, hl2, by rw [r.length, r2.length]; rw [zipD_len] at le; omega⟩, fun d e => ?_⟩
  obtain ⟨x, y, ex, ey, rfl⟩ := zipD_get e
  obtain ⟨v, ev, rv⟩ := r.get ex
  obtain ⟨u, eu, ru⟩ := r2.get ey
  refine ⟨⟨v, u, hl, hl2, ev, eu⟩, fun z H'' q => ?_⟩
  obtain ⟨T, v', u', rfl, hT, rfl, q1, q2⟩ := q
  rw [ev] at q1
  rw [eu] at q2
  cases q1
  cases q2
  refine ⟨_, Nxt.stand R hT, .tup (.inl (.inl upd_same)) ?_⟩
  have gT : G' T = none := by
    cases e : G' T with
    | none => rfl
    | some o => have := R.co.sub _ _ e; rw [hT] at this; cases this
  exact .cons (rv.mono (s.trans fun c o e => by rw [upd_ne (ne_of_none e gT)]; exact e)) (.cons (ru.mono (s.trans fun c o e => by rw [upd_ne (ne_of_none e gT)]; exact e)) .nil)
def iZ2 (K : PySem.W.Frag) (ta : TA) : TI := fun σ H R => ta σ H fun vs H1 => ∃ a b xs ys, vs = [.ref a, .ref b] ∧ SqL K H1 a xs ∧ (SqT K H1 b ys ∧ R (ItM K a b xs ys) H1 ∨ SqL K H1 b ys ∧ R (Itz K a b) H1)
/-- zip of a list with a tuple, or with a list -/
theorem pi_z2 {X : Cx} {e e2 : Expr} {ta : TA} {p pos tpos : Pos} {elts : List Expr} {kk : Nat} (hg : Gl X "zip") (hm : X.mg "zip" = none) (ha : PA X [e, e2] ta)
    (hs : starEach [e, e2] X.env = (false, eval e X.env) :: starEach [e2] X.env) (hpl : (backTo pos (starEach [e2] X.env)).any (·.1) = false) :
    PI X (.Tuple elts kk tpos) (.Call (.Name "zip" p) [e, e2] [] pos) (iZ2 X.K ta) := by
  refine ⟨fun pins s σ H R I h => Call_ (ld_blt I hg hm PyProof.Rows.boot_zip (PyProof.Rows.callWith_type1 (thn (ha.run pos pins s σ H _ I h) fun us s1 ⟨vs, H1, I1, r1, q⟩ => ?_) hs hpl))⟩
  obtain ⟨a, b, xs, ys, ex, hl, q⟩ := q
  subst ex
  obtain ⟨c, d, rfl, rc, rd⟩ := Vals.two r1
  cases rc
  cases rd
  obtain ⟨its, _, pl, _⟩ := I1.list hl
  have fr : ∀ c ∈ mixC s1.heap.objs.size, FpOk X pins H1 c := fun c m => I1.fpOk (mixC_le m).1 (I1.hok.fresh (mixC_le m).1)
  rcases q with ⟨ht, q⟩ | ⟨ht, q⟩
  · obtain ⟨its2, _, pt, _⟩ := I1.tuple ht
    obtain ⟨o2, ho2, _⟩ := id pt
    refine zip_begins2 (begins_list a its.toArray) (begins_tuple b its2.toArray) pl.isList pt fun h' z1 z2 z3 g1 g2 hsz hk => wpAny_pyIter_zip z1 ?_
    have J : Inv X pins σ H1 { s1 with heap := h' } := I1.kept (t' := s1.toks) hk
    exact ⟨s1.heap.objs.size + 4, mixC s1.heap.objs.size, _, _, H1, rfl, J, mix_turn pl.lt (Heap.lt_size ho2), ⟨z1, z2, ⟨_, _, z3⟩, ⟨_, g1, rfl, rfl⟩, ⟨_, g2, rfl, rfl⟩, Nat.zero_le _, Nat.zero_le _⟩, fr, q⟩
  · obtain ⟨its2, _, pt, _⟩ := I1.list ht
    refine zip_begins2 (begins_list a its.toArray) (begins_list b its2.toArray) pl.isList pt.isList fun h' z1 z2 z3 g1 g2 hsz hk => wpAny_pyIter_zip z1 ?_
    have J : Inv X pins σ H1 { s1 with heap := h' } := I1.kept (t' := s1.toks) hk
    exact ⟨s1.heap.objs.size + 4, mixC s1.heap.objs.size, _, _, H1, rfl, J, turn_zip (PySem.W.ktu_apart s1.heap.objs.size a b pl.lt pt.lt), ⟨z1, z2, ⟨_, _, z3⟩, ⟨_, g1, rfl, rfl⟩, ⟨_, g2, rfl, rfl⟩⟩, fr, q⟩
section
variable {X : Cx} {io : List Nat} {a b : Expr} {p pos : Pos}
@[simp] def iZm (fs : FSs) : FI := fun ρ Q => sD fs ρ fun ds ρ1 => ∃ l m, ds = [.lst l, .tup m] ∧ Q (zipD l m) ρ1
theorem i_zm {elts : List Expr} {kk : Nat} {tpos : Pos} {fs : FSs} (hm : X.mg "zip" = none) (h : PDs' X io [a, b] fs) (hg : Gl X "zip" := by rfl) (hs : starEach [a, b] X.env = (false, eval a X.env) :: starEach [b] X.env := by rfl) (hpl : (backTo pos (starEach [b] X.env)).any (·.1) = false := by rfl) :
    PDi X io (.Tuple elts kk tpos) (.Call (.Name "zip" p) [a, b] [] pos) (iZm fs) := by
  obtain ⟨_, a1, a2⟩ := h
  refine ⟨_, pi_mix hg hm a1 hs hpl, fun B G H σ ρ fp Qd Rr hB R hf k => ds_sealed a2 B G H σ ρ fp _ _ hB R hf fun ds ρ1 vs G1 H1 fp1 n r ⟨l, m, ed, q⟩ => ?_⟩
  subst ed
  obtain ⟨v, w, rfl, r1, r2⟩ := r.two
  obtain ⟨c, xs, ev, h, rs⟩ := r1.lst_inv
  obtain ⟨d, ys, ew, h2, rs2⟩ := r2.tup_inv
  exact ⟨c, d, xs, ys, by rw [ev, ew], .inl (n.rp.co.sub.rd h), n.rp.co.sub.t h2, k _ _ _ _ _ _ n (dj_mix h rs h2 rs2) q⟩
/-- zip(a list, a list or a tuple) -/
@[simp] def iZa (fs : FSs) : FI := fun ρ Q => sD fs ρ fun ds ρ1 => ∃ l m, (ds = [.lst l, .tup m] ∨ ds = [.lst l, .lst m]) ∧ Q (zipD l m) ρ1
theorem i_za {elts : List Expr} {kk : Nat} {tpos : Pos} {fs : FSs} (hm : X.mg "zip" = none) (h : PDs' X io [a, b] fs) (hg : Gl X "zip" := by rfl) (hs : starEach [a, b] X.env = (false, eval a X.env) :: starEach [b] X.env := by rfl) (hpl : (backTo pos (starEach [b] X.env)).any (·.1) = false := by rfl) :
    PDi X io (.Tuple elts kk tpos) (.Call (.Name "zip" p) [a, b] [] pos) (iZa fs) := by
  obtain ⟨_, a1, a2⟩ := h
  refine ⟨_, pi_z2 hg hm a1 hs hpl, fun B G H σ ρ fp Qd Rr hB R hf k => ds_sealed a2 B G H σ ρ fp _ _ hB R hf fun ds ρ1 vs G1 H1 fp1 n r ⟨l, m, ed, q⟩ => ?_⟩
  rcases ed with ed | ed <;> subst ed <;> obtain ⟨v, w, rfl, r1, r2⟩ := r.two <;> obtain ⟨c, xs, ev, h, rs⟩ := r1.lst_inv
  · obtain ⟨d, ys, ew, h2, rs2⟩ := r2.tup_inv
    exact ⟨c, d, xs, ys, by rw [ev, ew], .inl (n.rp.co.sub.rd h), .inl ⟨n.rp.co.sub.t h2, k _ _ _ _ _ _ n (dj_mix h rs h2 rs2) q⟩⟩
  · obtain ⟨d, ys, ew, h2, rs2⟩ := r2.lst_inv
    exact ⟨c, d, xs, ys, by rw [ev, ew], .inl (n.rp.co.sub.rd h), .inr ⟨.inl (n.rp.co.sub.rd h2), k _ _ _ _ _ _ n (dj_zip h rs h2 rs2) q⟩⟩
end
end DL

namespace DL
open PySem PySem.Spec PyProof.Rows L2
/-! ### tuples told as data: slices and sums -/
theorem cutD_whole {α : Type} {l : List α} {lo hi : Option Int} (h : HT.sIx l.length 0 lo = 0 ∧ HT.sIx l.length l.length hi = l.length) : DL.cutD l lo hi = l := by
  unfold DL.cutD
  rw [h.1, h.2]
  simp
theorem cut_drop {α : Type} {l : List α} {n : Nat} : DL.cutD l (some (n : Int)) none = l.drop n := by
  unfold DL.cutD
  have e : HT.sIx l.length 0 (some (n : Int)) = min n l.length := by
    unfold HT.sIx
    simp
    omega
  have e2 : HT.sIx l.length l.length none = l.length := rfl
  rw [e, e2]
  by_cases h : n ≤ l.length
  · rw [Nat.min_eq_left h]
    exact List.take_of_length_le (by simp)
  · rw [Nat.min_eq_right (by omega), List.drop_eq_nil_of_le (by omega), List.drop_eq_nil_of_le (by omega), List.take_nil]
section
variable {X : Cx} {io : List Nat} {a b : Expr} {pos : Pos}
@[simp] def fSlT (fa : FO) (fl fh : FP) : FV := fun ρ Q => fa ρ fun x ρ1 => fl ρ1 fun lo ρ2 => fh ρ2 fun hi ρ3 => ∃ ds, resT ρ3 x = some (.dat (.tup ds)) ∧ Q (.tup (DL.cutD ds lo hi)) ρ3
theorem stand_tup {K : PySem.W.Frag} {B : Bs} {σ : L2.St} {G H G' H' : Hp} {ρ ρ' : Rho} {fp fp' : Nat → List Addr} {vs : List V} {ds : List DD} {Q : VK} (R : Rp K B G H σ ρ fp) (n : Nxt K B σ G H fp G' H' ρ' fp') (rs : RqA K G' vs ds)
    (k : ∀ v G'' H'', Nxt K B σ G H fp G'' H'' ρ' fp' → Rq K G'' v (.tup ds) → Q v H'') : ∀ p, H' p = none → Q (.ref p) (upd H' p (.tup vs)) := fun p hp => by
  have n3 := n.trans (Nxt.stand n.rp (o := .tup vs) hp)
  refine k _ _ _ n3 (.tup (.inl (.inl upd_same)) (rs.mono fun a o e => ?_))
  have ne : a ≠ p := fun z => by
    have := n.rp.co.sub _ _ e
    rw [z, hp] at this; cases this
  rw [upd_ne ne]; exact e
theorem v_slT {lo hi : Option Expr} {fa : FO} {fl fh : FP} {p2 : Pos} (ha : PDo X io a fa) (hl : PDp X io lo fl) (hh : PDp X io hi fh) : PDv X io (.Subscript a (.Slice lo hi none p2) pos) (fSlT fa fl fh) := by
  obtain ⟨ta, a1, a2⟩ := ha
  obtain ⟨tl, l1, l2⟩ := hl
  obtain ⟨th, h1, h2⟩ := hh
  refine ⟨_, pe_slice sl_tupA a1 l1 h1, fun B G H σ ρ fp Qd Q hB R hf k => ?_⟩
  refine a2 B G H σ ρ fp _ _ hB R hf fun x ρ1 v1 G1 H1 fp1 n1 o1 hf => ?_
  refine l2 B G1 H1 σ ρ1 fp1 _ _ hB n1.rp hf fun lo ρ2 G2 H2 fp2 n2 hf => ?_
  refine h2 B G2 H2 σ ρ2 fp2 _ _ hB n2.rp hf fun hi ρ3 G3 H3 fp3 n3 ⟨ds, e1, q⟩ => ?_
  have n := (n1.trans n2).trans n3
  obtain ⟨f, ot, hin⟩ := ((o1.next n2).next n3).tree n3.rp e1
  obtain ⟨p, xs, ev, h, rs⟩ := ot.dat_inv.1.tup_inv
  refine ⟨p, xs, ev, n3.rp.co.sub.t h, fun z => ?_, fun _ => stand_tup R n (cut_rqA rs lo hi) fun v G'' H'' n' r' => k _ _ _ _ _ _ n' r' q⟩
  rw [rs.length] at z
  rw [cutD_whole z] at q
  exact k _ _ _ _ _ _ n (.tup h rs) q
@[simp] def fAddT (fa fb : FE) : FV := fun ρ Q => fa ρ fun x ρ1 => fb ρ1 fun y ρ2 => ∃ l m, x = .dat (.tup l) ∧ y = .dat (.tup m) ∧ l.length + m.length ≤ sizeLine ∧ Q (.tup (l ++ m)) ρ2
theorem v_addT {fa fb : FE} (ha : PDe X io a fa) (hb : PDe X io b fb) : PDv X io (.BinOp a .Add b pos) (fAddT fa fb) := by
  obtain ⟨ta, a1, a2⟩ := ha
  obtain ⟨tb, b1, b2⟩ := hb
  refine ⟨_, pe_op op_catA a1 b1, fun B G H σ ρ fp Qd Q hB R hf k => ?_⟩
  refine two_trees a2 b2 (Qd := fun x y ρ2 => ∃ l m, x = .dat (.tup l) ∧ y = .dat (.tup m) ∧ l.length + m.length ≤ sizeLine ∧ Qd (.tup (l ++ m)) ρ2) hB R hf fun x y ρ2 v w G2 H2 fp2 f1 f2 n o1 o2 d12 n1 n2 t1 t2 ⟨l, m, ex, ey, hz, q⟩ => ?_
  subst ex ey
  obtain ⟨p, xs, ev, h1, r1⟩ := o1.dat_inv.1.tup_inv
  obtain ⟨p2, ys, ew, h2, r2⟩ := o2.dat_inv.1.tup_inv
  refine ⟨p, p2, xs, ys, ev, ew, n.rp.co.sub.t h1, n.rp.co.sub.t h2, by rw [r1.length, r2.length]; exact hz, fun z => ?_, fun _ z => ?_, fun _ _ => stand_tup R n (r1.append r2) fun v G'' H'' n' r' => k _ _ _ _ _ _ n' r' q⟩
  · have : l = [] := by have := r1.length; rw [z] at this; exact List.length_eq_zero_iff.mp this.symm
    subst this
    rw [List.nil_append] at q
    exact k _ _ _ _ _ _ n (.tup h2 r2) q
  · have : m = [] := by have := r2.length; rw [z] at this; exact List.length_eq_zero_iff.mp this.symm
    subst this
    rw [List.append_nil] at q
    exact k _ _ _ _ _ _ n (.tup h1 r1) q
/-- a test with all owned trees told as data -/
@[simp] def fTFrz (ft : FT) : FT := fun ρ Q => ft (frzR ρ) fun b ρ' => ρ' = frzR ρ ∧ Q b ρ
theorem t_frz {e : Expr} {ft : FT} (h : PDt X io e ft) : PDt X io e (fTFrz ft) := by
  obtain ⟨tt, h1, h2⟩ := h
  refine ⟨tt, h1, fun B G H σ ρ fp Qd Q hB R hf k => ?_⟩
  have d : DE X.K io (fun σ H Q => tt σ H fun b H' => Q (.bl b) H') (fun ρ Q => ft ρ fun b ρ' => Q (.dat (.bl b)) ρ') := fun B G H σ ρ fp Qd Q hB R hf k =>
    h2 B G H σ ρ fp _ _ hB R hf fun b ρ' G' H' fp' n q => k _ ρ' _ G' H' fp' [] n (.dat (.bl b)) (fun _ z => nomatch z) (fun _ z => nomatch z) q
  refine frz_core d B G H σ ρ fp (fun r => ∃ b, r = .dat (.bl b) ∧ Qd b ρ) (fun v H' => match v with | .bl b => Q b H' | _ => False) hB R ?_ fun r v G' H' fr n _ ot o1 o2 _ ⟨b, er, q⟩ => ?_
  · show ft (frzR ρ) _
    have : (fun b ρ' => ρ' = frzR ρ ∧ Qd b ρ) = fun (b : Bool) ρ' => ρ' = frzR ρ ∧ flatT (.dat (.bl b)) = true ∧ ∃ b1, SV.dat (.bl b) = .dat (.bl b1) ∧ Qd b1 ρ := by
      funext b ρ'
      refine propext ⟨fun ⟨a, c⟩ => ⟨a, rfl, b, rfl, c⟩, fun ⟨a, _, b1, e, c⟩ => ?_⟩
      cases e
      exact ⟨a, c⟩
    rw [← this]
    exact hf
  · subst er
    have := ot.dat_inv.1.bl_inv
    subst this
    exact k b ρ G' H' fp n q
/-- a tuple that holds its trees -/
@[simp] def fTupE (fs : FSs) : FE := fun ρ Q => fs ρ fun ts ρ1 => ts.length ≤ sizeLine ∧ Q (.tp ts) ρ1
theorem e_tupE {es : List Expr} {fs : FSs} {x1} (h : PDs' X io es fs) : PDe X io (.Tuple es x1 pos) (fTupE fs) := by
  obtain ⟨_, a1, a2⟩ := h
  refine ⟨_, pe_tup a1, fun B G H σ ρ fp Qd Q hB R hf k => ?_⟩
  refine a2 B G H σ ρ fp _ _ hB R hf fun ts ρ1 vs G1 H1 fp1 f n1 os t1 t2 ⟨hz, q⟩ => ?_
  refine ⟨by rw [os.length]; exact hz, fun l hl => ?_⟩
  have n3 := n1.trans (Nxt.stand n1.rp (o := .tup vs) hl)
  have gl : G1 l = none := by
    cases e : G1 l with
    | none => rfl
    | some u => have := n1.rp.co.sub _ _ e; rw [hl] at this; cases this
  have nf : ∀ x ∈ f, x ≠ l := fun x m z => by
    obtain ⟨⟨o, e⟩, _⟩ := os.here x m
    rw [z, hl] at e; cases e
  exact k _ _ _ _ _ _ f n3 (.tp (.inl (.inl upd_same)) (os.mono (fun x o e => by rw [upd_ne (ne_of_none e gl)]; exact e) (fun x m o e => by rw [upd_ne (nf x m)]; exact e) fun x m => by rw [upd_ne (nf x m)]; exact (os.here x m).2)) (fun x m => t1 x m) (fun x m => t2 x m) q
end
end DL

namespace DL
open PySem PySem.Spec PyProof.Rows L2
/-! ### statements that may let an exception out: its class, its value, the state -/
abbrev WD := Addr → SV → Rho → Prop
structure SimX (K : PySem.W.Frag) (B : Bs) (Wd : WD) (W : WX) : Prop where
  ex : ∀ G H σ ρ fp C dx v t fr, Rp K B G H σ ρ fp → G dx = some (.xd [(("value" : Str), v)]) → OT K G H v t fr → (∀ a ∈ fr, ¬ In fp a) → (∀ a ∈ fr, In B.fp0 a ∨ B.H0 a = none) → Wd C t ρ → W (.ref C) (some dx) σ H
abbrev FX := WD → FS
def DSx (K : PySem.W.Frag) (io : List Nat) (W : WX) (t : TS) (fs : FX) : Prop := ∀ (B : Bs) G H σ ρ fp Dd Dh Wd, B.io = io → Rp K B G H σ ρ fp → fs Wd Dd ρ → Sim K B Dd Dh → SimX K B Wd W → t Dh σ H
def PDx (X : Cx) (W : WX) (io : List Nat) (st : Stmt) (fs : FX) : Prop := ∃ t, PS X st t ∧ DSx X.K io W t fs
def PDsx (X : Cx) (W : WX) (io : List Nat) (st : List Stmt) (fs : FX) : Prop := ∃ t, PSs X st t ∧ DSx X.K io W t fs
/-- the word that a body has in all contexts alike -/
def canX (K : PySem.W.Frag) (io : List Nat) (fs : FX) : WX → TS := fun W Dh σ H => ∃ (B : Bs) (G : Hp) (ρ : Rho) (fp : Nat → List Addr) (Dd : DEnds) (Wd : WD), B.io = io ∧ Rp K B G H σ ρ fp ∧ fs Wd Dd ρ ∧ Sim K B Dd Dh ∧ SimX K B Wd W
section
variable {X : Cx} {W : WX} {io : List Nat} {st : Stmt} {rest : List Stmt} {f g : FX} {pos : Pos}
theorem PDsx.can (h : PDsx X W io rest f) : PSs X rest (canX X.K io f W) := by
  obtain ⟨t, h1, h2⟩ := h
  exact ⟨fun pins s σ H D I ⟨B, G, ρ, fp, Dd, Wd, hB, R, hf, sm, sx⟩ => h1.run pins s σ H D I (h2 B G H σ ρ fp Dd D Wd hB R hf sm sx)⟩
/-- a statement that lets nothing out -/
theorem x_of {f : FS} (h : PDs X io st f) : PDx X W io st (fun _ => f) := by
  obtain ⟨t, h1, h2⟩ := h
  exact ⟨t, h1, fun B G H σ ρ fp Dd Dh Wd hB R hf s _ => h2 B G H σ ρ fp Dd Dh hB R hf s⟩
theorem xs_of {f : FS} (h : PDss X io rest f) : PDsx X W io rest (fun _ => f) := by
  obtain ⟨t, h1, h2⟩ := h
  exact ⟨t, h1, fun B G H σ ρ fp Dd Dh Wd hB R hf s _ => h2 B G H σ ρ fp Dd Dh hB R hf s⟩
@[simp] def xSeq (f g : FX) : FX := fun Wd D ρ => f Wd { D with nx := g Wd D } ρ
theorem xs_cons (h1 : PDx X W io st f) (h2 : PDsx X W io rest g) : PDsx X W io (st :: rest) (xSeq f g) := by
  obtain ⟨_, a1, a2⟩ := h1
  obtain ⟨_, b1, b2⟩ := h2
  refine ⟨_, pss_cons a1 b1, fun B G H σ ρ fp Dd Dh Wd hB R hf s sx => ?_⟩
  exact a2 B G H σ ρ fp _ _ Wd hB R hf ⟨fun G H σ ρ fp R q => b2 B G H σ ρ fp Dd Dh Wd hB R q s sx, s.rt, s.bk, s.ct⟩ sx
theorem xs_one (h1 : PDx X W io st f) : PDsx X W io [st] f := let ⟨_, a1, a2⟩ := h1; ⟨_, pss_one a1, a2⟩
@[simp] def xIf (c : FT) (f g : FX) : FX := fun Wd D ρ => c ρ fun b ρ1 => if b = true then f Wd D ρ1 else g Wd D ρ1
theorem x_if {c : Expr} {a b : List Stmt} {fc : FT} (hc : PDt X io c fc) (ha : PDsx X W io a f) (hb : PDsx X W io b g) : PDx X W io (.If c a b pos) (xIf fc f g) := by
  obtain ⟨_, c1, c2⟩ := hc
  obtain ⟨_, a1, a2⟩ := ha
  obtain ⟨_, b1, b2⟩ := hb
  refine ⟨_, ps_if c1 a1 b1, fun B G H σ ρ fp Dd Dh Wd hB R hf s sx => ?_⟩
  refine c2 B G H σ ρ fp _ _ hB R hf fun b ρ1 G1 H1 fp1 n q => ?_
  cases b with
  | true => exact a2 B G1 H1 σ ρ1 fp1 Dd Dh Wd hB n.rp q s sx
  | false => exact b2 B G1 H1 σ ρ1 fp1 Dd Dh Wd hB n.rp q s sx
theorem SimX.floor {K : PySem.W.Frag} {B : Bs} {Wd : WD} {L : Hp} (s : SimX K B Wd W) (h : Sub B.L L) : SimX K { B with L := L } Wd W := ⟨fun G H σ ρ fp C dx v d fr R e r d1 d2 q => s.ex G H σ ρ fp C dx v d fr (R.unfloor h) e r d1 d2 q⟩
@[simp] def xFor (fi : FI) (fg : FG) (f : FX) : FX := fun Wd D => fFor fi fg (f Wd) D
theorem x_for {body : List Stmt} {e tg : Expr} {fi : FI} {fg : FG} (hp : PassesOwn (model X.prog X.w) X.A X.env X.xe) (hc : X.calm = true) {ks : List Nat} (hi : PDi X io tg e fi) (hg : PDg X io ks tg fg) (hb : PDsx X W io body f) (hs : ∀ x, foldedSetIterable e X.env x = pure x := by intro _; rfl) :
    PDx X W io (.For tg e body [] pos) (xFor fi fg f) := by
  obtain ⟨_, a1, a2⟩ := hi
  obtain ⟨_, b1, b2⟩ := hg
  obtain ⟨_, c1, c2⟩ := hb
  refine ⟨_, ps_for hp hc a1 b1 c1 hs, fun B G H σ ρ fp Dd Dh Wd hB R hf s sx => ?_⟩
  refine a2 B G H σ ρ fp _ _ hB R hf fun ds ρ1 J G1 H1 fp1 n dj ⟨V, w0, hw, hd⟩ => ?_
  have lo : Sub B.L G1 := n.rp.lo
  refine ⟨fun i m σ H => m = ds.length - i ∧ i ≤ ds.length ∧ ∃ G ρ fp, Rp X.K { B with L := G1 } G H σ ρ fp ∧ V i ρ, ⟨_, rfl, Nat.zero_le _, G1, ρ1, fp1, n.rp.floor (Sub.refl _), w0⟩, ?_⟩
  rintro i m σ2 H2 ⟨rfl, hi, G2, ρ2, fp2, R2, w2⟩
  obtain ⟨j1, j2⟩ := dj _ i G2 H2 σ2 ρ2 fp2 R2.lo R2
  by_cases hlt : i < ds.length
  · obtain ⟨d, ed⟩ : ∃ d, ds[i]? = some d := ⟨ds[i], List.getElem?_eq_getElem hlt⟩
    obtain ⟨go, y⟩ := j2 d ed
    refine .inr ⟨go, fun σ' H' => ∃ G ρ fp, Rp X.K { B with L := G1 } G H' σ' ρ fp ∧ V (i + 1) ρ, fun σ' H' q => ⟨ds.length - (i + 1), by omega, rfl, hlt, q⟩, fun x H3 yx => ?_⟩
    obtain ⟨G3, n3, r3⟩ := y x H3 yx
    refine b2 _ G3 H3 σ2 ρ2 fp2 x d _ _ (by exact hB) n3.rp r3 (hw i d ρ2 ed w2) fun σ4 ρ4 fp4 R4 _ _ q4 => ?_
    exact c2 _ G3 H3 σ4 ρ4 fp4 _ _ Wd (by exact hB) R4 q4 ⟨fun G H σ ρ fp R z => ⟨G, ρ, fp, R, z⟩, fun G H σ ρ fp r v fr R o t1 t2 z => s.rt G H σ ρ fp r v fr (R.unfloor lo) o t1 t2 z, fun G H σ ρ fp R z => s.nx G H σ ρ fp (R.unfloor lo) z, fun G H σ ρ fp R z => ⟨G, ρ, fp, R, z⟩⟩ (sx.floor lo)
  · have e : i = ds.length := by omega
    subst e
    exact .inl ⟨j1 (Nat.le_refl _), s.nx _ _ _ _ _ (R2.unfloor lo) (hd ρ2 w2)⟩
end
end DL

namespace DL
open PySem PySem.Spec PyProof.Rows L2
/-! ### defs that let an exception out -/
abbrev XCtr := List SV → (Addr → SV → List SV → Prop) → Prop
/-- the def ends by an exception, told as data -/
def spE (K : PySem.W.Frag) (F : XCtr) : Sp := fun vs H _ E => ∃ G as fp Qd, Co K G H (vs.map some) (as.map some) fp ∧ F as Qd ∧ ∀ C dx v d as' G' H' fp' fr, Co K G' H' (vs.map some) (as'.map some) fp' →
  Stp (In fp) G H G' H' → (∀ a, In fp' a → In fp a ∨ H a = none) → G' dx = some (.xd [(("value" : Str), v)]) → OT K G' H' v d fr → (∀ a ∈ fr, ¬ In fp' a) → (∀ a ∈ fr, H a = none ∨ In fp a) → Qd C d as' → E (.ref C) (some dx) H'
/-- the def x stands, and raises as F tells -/
def Hx (P : Program) (w : World) (K : PySem.W.Frag) (mg : Str → Option Value) (base : Heap) (x : Str) (ps : List Str) (k : Nat) (F : XCtr) : Prop :=
  ∃ f fd, mg x = some (.ref f) ∧ PySem.W.keepIn K (.ref f) = true ∧ Binds K fd ps [] ∧ FnG P w K mg base (L2.CX P w) k f fd ps (spE K F)
section
variable {X : Cx} {CX : CXT} {k : Nat} {f : Addr} {fd : FuncData} {ps : List Str} {sp : Sp} {E : L2.St → XK} {x : Str} {p pos pos2 : Pos} {e : Expr} {es : List Expr} {t : TA} {W : WX} {io : List Nat} {fa : FAs} {F : XCtr}
theorem run_fnSG {pins : List (Addr × Obj)} {σ : L2.St} {H : Hp} {s : Shared} {Q : VK} {us : List Value} {vs : List V} (F : FnG X.prog X.w X.K X.mg X.base CX k f fd ps sp) (hr : RoomG k X.A) (hb : Binds X.K fd ps []) (hx : PassesAt CX X σ (E σ))
    (I : Inv X pins σ H s) (r : Vals vs us) (h : sp vs H Q (E σ)) : wpAny (model X.prog X.w) X.A (call (.ref f) us) (EP X pins σ Q) X.xe s := by
  have hl : (us ++ []).length = ps.length := by rw [List.append_nil, ← r.length]; exact F.len _ _ _ _ h
  have hb2 := hb s us I.kIn hl
  rw [List.append_nil] at hb2
  refine wpAny_call (codeAny_mono (F.run X.A X.stack s H ⟨us, []⟩ us vs Q (E σ) hr I.env0 hb2 r h) fun r s' hq => ?_)
  cases r with
  | error e => exact hx pins H s e s' I hq
  | ok fl => cases fl <;> first | exact I.after hq | exact False.elim hq
theorem pe_callSG (F : FnG X.prog X.w X.K X.mg X.base CX k f fd ps sp) (hr : RoomG k X.A) (hg : Gl X x) (hm : X.mg x = some (.ref f)) (hk : PySem.W.keepIn X.K (.ref f) = true) (hb : Binds X.K fd ps []) (hx : ∀ σ, PassesAt CX X σ (E σ))
    (ha : PA X (e :: es) t) (hdb : (x == ("__debug__" : Str)) = false := by decide) (he : starEach (e :: es) X.env = (false, eval e X.env) :: starEach es X.env := by rfl) (hpl : (backTo pos (starEach es X.env)).any (·.1) = false := by rfl) :
    PE X (.Call (.Name x p) (e :: es) [] pos) (tCallS sp E t) := by
  refine ⟨fun pins s σ H Q I h => ?_⟩
  refine wpAny_Call_Name_kw (ld_glob I hg hm ?_ hdb)
  refine PySem.W.callWith_K (h₀ := X.base) I.ok.mod.kin hk (thn (ha.run pos pins s σ H _ I h) fun us s1 ⟨vs, H1, I1, r, q⟩ => ⟨I1.kIn, ?_⟩) he hpl
  exact run_fnSG F hr hb (hx σ) I1 r q
/-- f(a, ..) as a statement, which raises -/
@[simp] def xCall (F : XCtr) (fa : FAs) : FX := fun Wd _ ρ => fa ρ fun avs ρ1 => ∃ as, resA ρ1 avs = some as ∧ (refs avs).Nodup ∧ F as fun C d as' => Wd C d (wb ρ1 avs as')
theorem exc_core {K : PySem.W.Frag} {B : Bs} {σ : L2.St} {G H G1 H1 : Hp} {ρ ρ1 : Rho} {fp fp1 : Nat → List Addr} {Fx : XCtr} {avs : List AV} {as : List SV} {vs : List V} {fr : List Addr} {Q : VK} {Wd : WD} {W : WX}
    (R : Rp K B G H σ ρ fp) (n1 : Nxt K B σ G H fp G1 H1 ρ1 fp1) (ar : AVR K G1 H1 σ vs avs fr) (t1 : ∀ a ∈ fr, ¬ In fp1 a) (t2 : ∀ a ∈ fr, H a = none ∨ In fp a) (ha : resA ρ1 avs = some as) (nd : (refs avs).Nodup)
    (hF : Fx as fun C d as' => Wd C d (wb ρ1 avs as')) (sx : SimX K B Wd W) : spE K Fx vs H1 Q (WE W σ) := by
  obtain ⟨g, cg, hg, l1, l2, hr⟩ := args_co n1.rp.co ar t1 nd ha
  have hfr : ∀ a ∈ fr, In B.fp0 a ∨ B.H0 a = none := fun a m => R.base t2 a m
  refine ⟨G1, as, g, _, cg, hF, fun C dx v d as' G' H' g' fr' c' st inn e ot d1 d2 q => ?_⟩
  have hl : as'.length = as.length := by
    have e1 := c'.len
    have e2 := cg.len
    simp at e1 e2
    omega
  obtain ⟨fp2, R2, st2, in2, cl⟩ := back_co n1.rp t1 hfr nd ha hg l2 hr c' st inn hl
  have back : ∀ a, H1 a = none → H a = none ∨ In fp a := fun a z => by
    by_cases q : In fp a
    · exact .inr q
    · exact .inl (n1.st.fresh q z)
  have back1 : ∀ a, In fp1 a → H a = none ∨ In fp a := fun a z => (n1.inn a z).symm
  have old : ∀ a, In g a → In fp1 a ∨ a ∈ fr := fun a ⟨k, m⟩ => (hg k a m).elim (fun ⟨m, _⟩ => .inr m) fun ⟨i, _, m⟩ => .inl ⟨i, m⟩
  have gb : ∀ a, In g a → H a = none ∨ In fp a := fun a z => (old a z).elim (back1 a) (t2 a)
  refine sx.ex _ _ _ _ _ C dx v d fr' R2 e ot (fun a m z => ?_) (R.base fun a m => (d2 a m).elim (back a) (gb a)) q
  rcases cl a z with z | ⟨z, nz⟩
  · exact d1 a m z
  · rcases d2 a m with y | y
    · obtain ⟨⟨o, e⟩, _⟩ := n1.rp.co.here z
      rw [y] at e; cases e
    · exact nz y
theorem ds_xcall {K : PySem.W.Frag} (h : DAs K io t fa) {Q : Ends → L2.St → VK} : DSx K io W (fun Dh σ H => tCallS (spE K F) (WE W) t σ H (Q Dh σ)) (xCall F fa) := by
  intro B G H σ ρ fp Dd Dh Wd hB R hf s sx
  refine h B G H σ ρ fp _ _ hB R hf fun avs ρ1 vs G1 H1 fp1 fr n1 ar t1 t2 ⟨as, ha, nd, hF⟩ => ?_
  exact exc_core R n1 ar t1 t2 ha nd hF sx
theorem x_call (tk : Takes X W) (h : Hx X.prog X.w X.K X.mg X.base x ps k F) (hr : RoomG k X.A) (ha : PDas X io (e :: es) fa) (hg : Gl X x := by rfl) (hdb : (x == ("__debug__" : Str)) = false := by decide)
    (he : starEach (e :: es) X.env = (false, eval e X.env) :: starEach es X.env := by rfl) (hpl : (backTo pos (starEach es X.env)).any (·.1) = false := by rfl) (hs : swapsWith (.Call (.Name x p) (e :: es) [] pos) none pos2.line X.env = pure false := by rfl) :
    PDx X W io (.Expr (.Call (.Name x p) (e :: es) [] pos) pos2) (xCall F fa) := by
  obtain ⟨f, fd, h1, h2, h3, h4⟩ := h
  obtain ⟨t, a1, a2⟩ := ha
  exact ⟨_, ps_expr (pe_callSG h4 hr hg h1 h2 h3 (fun σ => passAt tk σ) a1 hdb he hpl) hs, ds_xcall (Q := fun Dh σ _ H => Dh.nx σ H) a2⟩
end
end DL

namespace DL
open PySem PySem.Spec PyProof.Rows L2
section
variable {P : Program} {w : World} {K : PySem.W.Frag} {mg : Str → Option Value} {base : Heap} {f : Addr} {fd : FuncData} {x qual : Str} {params : Arguments} {body : List Stmt} {scope : Scope} {N ps : List Str} {k : Nat}
/-- a def that ends by an exception -/
theorem okX {F : XCtr} (io : List Nat) {fs : FX} (F0 : FunD K x qual params body scope [] [] f fd) (S : FnScope N ps scope)
    (hbody : ∀ (cdv : Value) (A : Around) (outer : List Env) (s : Shared) (H : Hp) (E : XK), RoomG k (A.deeper (envOfC qual scope s.heap.objs.size f cdv)) →
      Takes (cxOf (L2.CX P w) P w K mg base N qual scope f cdv A outer s H E) (fun cls d _ H => E cls d H) → PDsx (cxOf (L2.CX P w) P w K mg base N qual scope f cdv A outer s H E) (fun cls d _ H => E cls d H) io body fs)
    (hsh : ∀ as Q, F as Q → shp ps.length io as = true) (hil0 : (io.all fun i => decide (i < ps.length)) = true)
    (hF : ∀ as Q, F as Q → fs (fun C d ρ => Q C d (outs io as ρ)) ⟨fun _ => False, fun _ _ => False, fun _ => False, fun _ => False⟩ (as.map some ++ List.replicate (N.length - ps.length) none)) :
    FnG P w K mg base (L2.CX P w) (k + 1) f fd ps (spE K F) := by
  have h1 : ∀ as Q, F as Q → as.length = ps.length ∧ shpG io 0 as = true := fun as Q h => by
    have := hsh as Q h
    unfold shp at this
    simpa using this
  have hlen : ∀ as Q, F as Q → as.length = ps.length := fun as Q h => (h1 as Q h).1
  have hil : ∀ i ∈ io, i < ps.length := fun i m => of_decide_eq_true (List.all_eq_true.mp hil0 i m)
  obtain ⟨oc, od, dV, kV, doc, pm, an, cdv, ct, osl, rfl, lk, hcd, _, _⟩ := F0.ex
  have hlen' : ∀ vs H Q E, spE K F vs H Q E → vs.length = ps.length := fun vs H Q E ⟨G, as, fp, Qd, c, hF', _⟩ => by
    have := c.len
    simp at this
    rw [this]; exact hlen as Qd hF'
  refine fn_ofG lk hcd S hlen' fun A outer s H vs Q E hr ⟨G, as, fp, Qd, c, hF', kk⟩ => ?_
  obtain ⟨t, a1, a2⟩ := hbody cdv A outer s H E hr (takes_of rfl rfl rfl rfl)
  refine ⟨t, a1, ?_⟩
  have ea := hlen as Qd hF'
  have ev : vs.length = as.length := by have := c.len; simp at this; exact this
  let B : Bs := ⟨vs, as, io, G, H, fp, fun _ => none⟩
  have R0 : Rp K B G H (L2.start N vs) (as.map some ++ List.replicate (N.length - ps.length) none) fp := by
    refine ⟨?_, Stp.refl G H, fun a h => .inl h, fun i m => ?_, fun a o h => (nomatch h)⟩
    · unfold L2.start
      rw [ev, ea]
      exact c.pad _
    · have li : i < as.length := by rw [ea]; exact hil i m
      have lv : i < vs.length := by rw [ev]; exact li
      exact ⟨vs[i], as[i], List.getElem?_eq_getElem lv, by unfold L2.start; rw [List.getElem?_append_left (by simpa using lv)]; simp [lv], by rw [List.getElem?_append_left (by simpa using li)]; simp [li]⟩
  have hio' : ∀ (i : Nat) t, B.as[i]? = some t → i ∈ B.io ∨ ∃ d, t = .dat d := fun i t e => by simpa using shpG_of (h1 as Qd hF').2 e
  have hil' : ∀ i ∈ B.io, i < B.as.length := fun i m => by rw [show B.as.length = ps.length from ea]; exact hil i m
  refine a2 B G H _ _ fp _ _ _ rfl R0 (hF as Qd hF') ⟨fun _ _ _ _ _ _ z => z.elim, fun _ _ _ _ _ _ _ _ _ _ _ _ z => z.elim, fun _ _ _ _ _ _ z => z.elim, fun _ _ _ _ _ _ z => z.elim⟩ ⟨fun G' H' σ ρ fp' C dx v d fr R e r d1 d2 q => ?_⟩
  have sub : ∀ a, In (fun i => if i ∈ io then fp' i else []) a → In fp' a := fun a ⟨j, m⟩ => by
    by_cases e : j ∈ io
    · simp only [if_pos e] at m; exact ⟨j, m⟩
    · simp [e] at m
  exact kk C dx v d (outs io as ρ) G' H' _ fr (outs_co R c hio' hil') R.stp (fun a h => R.own a (sub a h)) e r (fun a m z => d1 a m (sub a z)) (fun a m => (d2 a m).symm) q
end
end DL

namespace DL
open PySem PySem.Spec PyProof.Rows L2
/-! ### try: .. except X as n: .. -/
theorem Rp.sigN {K : PySem.W.Frag} {B : Bs} {G H : Hp} {σ : L2.St} {ρ : Rho} {fp : Nat → List Addr} {i : Nat} (R : Rp K B G H σ ρ fp) (hi : i ∉ B.io) (hn : ∀ t, ρ[i]? ≠ some (some t)) : Rp K B G H (σ.set i none) ρ fp := by
  refine ⟨⟨by rw [List.length_set]; exact R.co.len, R.co.sub, fun j u h => ?_, R.co.nil, R.co.dis⟩, R.stp, R.own, fun j m => ?_, R.lo⟩
  · have ne : i ≠ j := fun z => hn u (by rw [z]; exact h)
    rw [List.getElem?_set_ne ne]
    exact R.co.slot j u h
  · have ne : i ≠ j := fun z => hi (by rw [z]; exact m)
    obtain ⟨v, t, e1, e2, e3⟩ := R.io j m
    exact ⟨v, t, e1, by rw [List.getElem?_set_ne ne]; exact e2, e3⟩
def canS (K : PySem.W.Frag) (io : List Nat) (fs : FS) : TS := fun Dh σ H => ∃ (B : Bs) (G : Hp) (ρ : Rho) (fp : Nat → List Addr) (Dd : DEnds), B.io = io ∧ Rp K B G H σ ρ fp ∧ fs Dd ρ ∧ Sim K B Dd Dh
section
variable {X : Cx} {W : WX} {io : List Nat} {body suite : List Stmt} {b₀ : Stmt} {f : FX} {g : Addr → Addr → Addr → FS} {pos pos' np : Pos} {x n : Str} {c : Value} {i : Nat}
theorem PDss.can {fs : FS} {st : List Stmt} (h : PDss X io st fs) : PSs X st (canS X.K io fs) := by
  obtain ⟨t, h1, h2⟩ := h
  exact ⟨fun pins s σ H D I ⟨B, G, ρ, fp, Dd, hB, R, hf, sm⟩ => h1.run pins s σ H D I (h2 B G H σ ρ fp Dd D hB R hf sm)⟩
/-- the suite's word, for an exception at a, of a class, with a dict -/
def tSuite (K : PySem.W.Frag) (io : List Nat) (g : Addr → Addr → Addr → FS) : Addr → Value → Option Addr → TS := fun a cls d => match cls, d with
  | .ref C, some dx => canS K io (g a dx C)
  | _, _ => fun _ _ _ => False
@[simp] def xTry (K : PySem.W.Frag) (c : Value) (io : List Nat) (i : Nat) (f : FX) (g : Addr → Addr → Addr → FS) : FX := fun Wd D ρ => i ∉ io ∧ f (fun C d ρ' =>
    (PySem.W.exmOne K (.ref C) c = some true ∧ ∀ a dx, g a dx C { nx := fun ρ'' => D.nx (ρ''.set i none), rt := D.rt, bk := fun ρ'' => D.bk (ρ''.set i none), ct := fun ρ'' => D.ct (ρ''.set i none) } (ρ'.set i (some (.ex a dx C d)))) ∨
    (PySem.W.exmOne K (.ref C) c = some false ∧ Wd C d ρ')) D ρ
theorem x_try (hs : X.stack = X.env :: X.outer) (hf : X.env.frame = some X.env.locals) (hN : X.N.Nodup) (hi : X.N[i]? = some n) (hln : X.env.kindOf n = some .local) (hc : Names X x c) (tk : Takes X W)
    (hb : ∀ (W : WX) (pn : List (Addr × Obj)) (xe : Value → Shared → Prop), Takes (X.tr pn xe) W → PassesOwn (model X.prog X.w) X.A X.env xe → PDsx (X.tr pn xe) W io body f)
    (hsu : ∀ (a : Addr) (oe : Obj) (C dx : Addr) (pn : List (Addr × Obj)), Zc (.ref C) (some dx) oe → (∃ vs, oe.data = .fields vs) → PDss (X.suite a ((a, oe) :: pn)) io (b₀ :: suite) (g a dx C)) :
    PDx X W io (.Try body [.ExceptHandler (some (.Name x np)) (some n) (b₀ :: suite) pos'] [] [] pos) (xTry X.K c io i f g) := by
  refine ⟨_, ps_try_as (i := i) (tb := canX X.K io f) (ts := tSuite X.K io g) (Wout := W) hs hf hN hi hln hc tk (fun W' pn xe tk' po => (hb W' pn xe tk' po).can) (fun a oe cls d pn z v => ?_), ?_⟩
  · unfold tSuite
    split
    · exact (hsu a oe _ _ pn z v).can
    · exact ⟨fun _ _ _ _ _ _ h => h.elim⟩
  · intro B G H σ ρ fp Dd Dh Wd hB R ⟨hio, hfb⟩ s sx
    refine ⟨B, G, ρ, fp, Dd, _, hB, R, hfb, s, ⟨fun G' H' σ' ρ' fp' C dx v d fr R' e r d1 d2 q => ?_⟩⟩
    have hi' : i ∉ B.io := by rw [hB]; exact hio
    rcases q with ⟨y, q⟩ | ⟨y, q⟩
    · refine ⟨true, y, fun _ a _ => ?_, fun z => nomatch z⟩
      have ot : OT X.K G' H' (.ref a) (.ex a dx C d) fr := .ex e r
      have end1 : ∀ {D1 : Rho → Prop} {D2 : L2.St → Hp → Prop}, (∀ G H σ ρ fp, Rp X.K B G H σ ρ fp → D1 ρ → D2 σ H) → ∀ G H σ ρ fp, Rp X.K B G H σ ρ fp → D1 (ρ.set i none) → D2 (σ.set i none) H := fun h G H σ ρ fp R z => by
        have R2 := (R.drop i hi').sigN hi' fun t m => by
          have := set_none_ne m
          exact this.1 rfl
        exact h _ _ _ _ _ R2 z
      exact ⟨B, G', _, _, _, hB, R'.put hi' ot d1 d2, q a dx, ⟨end1 s.nx, s.rt, end1 s.bk, end1 s.ct⟩⟩
    · refine ⟨false, y, ?_, fun _ => sx.ex _ _ _ _ _ C dx v d fr R' e r d1 d2 q⟩
      intro z
      cases z
end
end DL

namespace DL
open PySem PySem.Spec PyProof.Rows L2
/-! ### e.value in an except suite -/
section
variable {X : Cx} {a dx C : Addr} {oe : Obj} {pn : List (Addr × Obj)} {io : List Nat} {e : Expr} {pos : Pos} {fo : FO}
@[simp] def fXval (a dx C : Addr) (fo : FO) : FV := fun ρ Q => fo ρ fun o ρ1 => ∃ d, resT ρ1 o = some (.ex a dx C (.dat d)) ∧ Q d ρ1
theorem v_xval (T : XfC X.K C) (hno : PySem.W.findIn X.K (.ref C) "value" = some none) (hz : Zc (.ref C) (some dx) oe) (hv : ∃ vs, oe.data = .fields vs) (ho : PDo (X.suite a ((a, oe) :: pn)) io e fo) (hb : attributeBase e "value" X.env (eval e X.env) = eval e X.env := by rfl) : PDv (X.suite a ((a, oe) :: pn)) io (.Attribute e "value" pos) (fXval a dx C fo) := by
  obtain ⟨ta, a1, a2⟩ := ho
  refine ⟨_, pe_xf T hno hz hv a1 hb, fun B G H σ ρ fp Qd Q hB R hf k => ?_⟩
  refine a2 B G H σ ρ fp _ _ hB R hf fun o ρ1 v G1 H1 fp1 n1 o1 ⟨d, e1, q⟩ => ?_
  obtain ⟨f, ot, _⟩ := o1.tree n1.rp e1
  obtain ⟨w, ev, g, ot2⟩ := ot.ex_inv
  subst ev
  exact ⟨rfl, rfl, dx, _, _, rfl, n1.rp.co.sub _ _ g, rfl, k _ _ _ _ _ _ n1 ot2.dat_inv.1 q⟩
/-- the value is taken out of a caught one: a tree -/
@[simp] def fXmv (a dx C : Addr) (io : List Nat) (i : Nat) : FE := fun ρ Q => ∃ t, ρ[i]? = some (some (.ex a dx C t)) ∧ i ∉ io ∧ Q t (ρ.set i none)
theorem e_xmv (T : XfC X.K C) (hno : PySem.W.findIn X.K (.ref C) "value" = some none) (hz : Zc (.ref C) (some dx) oe) (hv : ∃ vs, oe.data = .fields vs) {te : TE} (i : Nat) (ho : PE (X.suite a ((a, oe) :: pn)) e te) (ht : te = tVar i) (hb : attributeBase e "value" X.env (eval e X.env) = eval e X.env := by rfl) : PDe (X.suite a ((a, oe) :: pn)) io (.Attribute e "value" pos) (fXmv a dx C io i) := by
  subst ht
  refine ⟨_, pe_xf T hno hz hv ho hb, fun B G H σ ρ fp Qd Q hB R hf k => ?_⟩
  obtain ⟨t, e1, ni, q⟩ := hf
  obtain ⟨v, e2, ot⟩ := R.co.slot i _ e1
  obtain ⟨w, ev, g, ot2⟩ := ot.ex_inv
  subst ev
  have inn : ∀ a, In (fun j => if j = i then [] else fp j) a → In fp a := fun a ⟨j, m⟩ => by
    by_cases e1 : j = i
    · simp [e1] at m
    · simp only [if_neg e1] at m
      exact ⟨j, m⟩
  refine ⟨.ref a, e2, rfl, rfl, dx, _, _, rfl, R.co.sub _ _ g, rfl, k t _ w G H _ (fp i) ⟨R.drop i (by rw [hB]; exact ni), Stp.refl G H, fun a h => .inl (inn a h)⟩ ot2 (fun a m ⟨j, m'⟩ => ?_) (fun a m => .inr ⟨i, m⟩) q⟩
  by_cases e : j = i
  · simp [e] at m'
  · simp only [if_neg e] at m'
    exact e (R.co.dis j i a m' m)
end
end DL

namespace DL
open PySem PySem.Spec PyProof.Rows L2
/-! ### len and == of instances with a __len__, an __eq__ of their own -/
section
variable {M : Model} {A : Around} {E : Value → Shared → Prop} {s : Shared} {K : PySem.W.Frag} {a C f : Addr} {ox : Obj} {od : Option Obj}
theorem special_own {name : Str} {args : List Value} {Q : Option Value → Shared → Prop} (X : K.In s.heap) (J : PySem.W.InstAt s.heap a ox C od) (hs : PySem.W.findIn K (.ref C) name = some (some (.ref f))) (hf : PySem.W.isFn K (.ref f) = true)
    (h : wpAny M A (call (.ref f) (.ref a :: args)) (fun v => Q (some v)) E s) : wpAny M A (callSpecial? (.ref a) name args) Q E s := by
  have sp : PySem.W.Looks M s.heap (specialOf (.ref a) name) (some (.ref f)) := J.type.andThen (PySem.W.looks_findIn X hs)
  unfold callSpecial?
  refine wpAny_bind (sp.here ?_)
  refine wpAny_holding ?_
  refine wpAny_bind ((PySem.W.bind_fn X (.ref a) (beq_iff_eq.mp hf)).here ?_)
  exact wpAny_bind (wpAny_mono h (fun v s' q => wpAny_pure q) fun _ _ e => e)
end
section
variable {X : Cx} {CX : CXT} {k : Nat} {C g : Addr} {fd : FuncData} {ps : List Str} {sp : Sp} {E : XK} {io : List Nat} {e a b : Expr} {pos p : Pos} {F : Ctr}
def rLenO (C : Addr) (sp : Sp) (E : XK) : List V → Hp → VK → Prop := fun xs H Q => ∃ a dx fs, xs = [.ref a] ∧ H a = some (.ins C dx fs) ∧ sp [.ref a] H (fun v H' => ∃ n : Int, v = .int n ∧ 0 ≤ n ∧ n < 2 ^ 63 ∧ Q v H') E
theorem call_lenO (hm : Meth X.K C "__len__" g) (F : FnG X.prog X.w X.K X.mg X.base CX k g fd ps sp) (hr : RoomG (k + 1) X.A) (hb : Binds X.K fd ps []) (hx : Passes CX X E) : CallR X (.builtin "len") (rLenO C sp E) := by
  intro pins s σ H xs us Q I r h
  obtain ⟨a, dx, fs, rfl, ha, q⟩ := h
  obtain ⟨u, rfl, ru⟩ := vals1 r
  obtain rfl : u = Value.ref a := ru
  obtain ⟨mA, O, _⟩ := ins_get I.hok ha
  obtain ⟨od, J, _⟩ := O.look
  have ln : ([Value.ref a] ++ []).length = ps.length := by simpa using F.len _ _ _ _ q
  have bd := hb s [.ref a] I.kIn ln
  refine Calls.call_function_entry kind_len plain_len entry_len (args_len1 _) ?_
  unfold Builtin.«len»
  refine wpAny_bind (m := oneArg "len" _) (wpAny_pure ?_)
  refine wpAny_bind (m := callSpecial? (.ref a) (PySem.Str.ofString "__len__")) (special_own I.kIn J hm.at_ hm.fn ?_)
  refine wpAny_call (codeAny_mono (F.run X.A.in1 X.stack s H ⟨[.ref a], []⟩ [.ref a] [.ref a] _ E hr.one I.env0.in1 bd (.cons rfl .nil) q) fun r s' hq => ?_)
  cases r with
  | error er => exact hx pins σ H s er s' I hq
  | ok fl =>
    cases fl with
    | next => exact hq.elim
    | brk => exact hq.elim
    | cont => exact hq.elim
    | ret u =>
      obtain ⟨v, H', I3, rv, n, rfl, n0, n1, q3⟩ := I.after hq
      obtain ⟨t, rfl⟩ := rv
      refine wpAny_bind (wpAny_holding (wpAny_pure ?_))
      refine wpAny_bind (wpAny_letGo ?_)
      show wpAny _ _ (if n < 0 then _ else _) _ _ _
      rw [if_neg (by omega)]
      show wpAny _ _ (if n ≥ 2 ^ 63 then _ else _) _ _ _
      rw [if_neg (by omega)]
      exact wpAny_bind (wpAny_mkInt (wpAny_pure ⟨_, rfl, .int n, H', I3.tok _, ⟨_, rfl⟩, q3⟩))
/-- len(e), all data -/
@[simp] def fLenO (C : Addr) (F : Ctr) (fo : FO) : FE := fun ρ Q => fo ρ fun z ρ1 => ∃ ds, resT ρ1 z = some (.dat (.obj C ds)) ∧ F [.dat (.obj C ds)] fun r _ => (∃ n : Int, r = .dat (.int n) ∧ 0 ≤ n ∧ n < 2 ^ 63) ∧ Q r ρ1
theorem e_lenO {fo : FO} (h : Hme_ X.prog X.w X.K X.mg X.base C "__len__" ps k F) (hr : RoomG (k + 1) X.A) (hm : X.mg "len" = none) (ho : PDo X io e fo) (hg : Gl X "len" := by rfl) (he : starEach [e] X.env = (false, eval e X.env) :: starEach [] X.env := by rfl) :
    PDe X io (.Call (.Name "len" p) [e] [] pos) (fLenO C F fo) := by
  obtain ⟨g, fd, c, hmm, hb, hF⟩ := h
  obtain ⟨to, o1, o2⟩ := ho
  refine ⟨_, pe_callB (call_lenO (E := fun _ _ _ => False) hmm hF hr hb pass0) hg hm PySem.boot_len (pa_cons o1 pa_nil he) (by decide) (by decide) he, fun B G H σ ρ fp Qd Q hB R hf kk => ?_⟩
  refine o2 B G H σ ρ fp _ _ hB R hf fun z ρ1 v G1 H1 fp1 n1 o1 ⟨ds, e1, hf⟩ => ?_
  obtain ⟨f, ot, _⟩ := o1.tree n1.rp e1
  have rq := ot.dat_inv.1
  obtain ⟨a, dx, fs, ev, ga, rf⟩ := rq.obj_inv
  subst ev
  refine ⟨a, dx, fs, rfl, n1.rp.co.sub _ _ ga, ?_⟩
  refine spD_data (ds := [.obj C ds]) n1.rp (.cons rq .nil) hf fun r as' v G' H' fr n3 ot2 s1 s2 ⟨⟨n, er, h0, h1⟩, q2⟩ => ?_
  have hv : v = .int n := by
    rw [er] at ot2
    exact ot2.dat_inv.1.int_inv
  refine ⟨n, hv, h0, h1, ?_⟩
  exact kk r ρ1 v G' H' fp1 fr (n1.trans n3) ot2 s1 (fun b m => by
    by_cases z : In fp b
    · exact .inr z
    · exact .inl (n1.st.fresh z (s2 b m))) q2
/-! == -/
def rEqO (C : Addr) (sp : Sp) (E : XK) : R2 := fun x y H Q => ∃ a b dx dy fs gs, x = .ref a ∧ y = .ref b ∧ H a = some (.ins C dx fs) ∧ H b = some (.ins C dy gs) ∧ sp [.ref a, .ref b] H (fun v H' => ∃ z, v = .bl z ∧ Q v H') E
theorem op_eqO (hm : Meth X.K C "__eq__" g) (F : FnG X.prog X.w X.K X.mg X.base CX k g fd ps sp) (hr : RoomG k X.A) (hb : Binds X.K fd ps []) (hx : Passes CX X E) : OpR X (compareOp .Eq) (rEqO C sp E) := by
  intro pins s σ H x y v u Q I rx ry d
  obtain ⟨a, b, dx, dy, fs, gs, rfl, rfl, ha, hb', q⟩ := d
  cases rx
  cases ry
  obtain ⟨mA, J, _⟩ := ins_get I.hok ha
  obtain ⟨mB, J', _⟩ := ins_get I.hok hb'
  obtain ⟨od, J, _⟩ := J.look
  obtain ⟨od', J', _⟩ := J'.look
  obtain ⟨m, hF⟩ := I.fr
  show wpAny (model X.prog X.w) X.A (richCompare .Eq (.ref a) (.ref b)) (EP X pins σ Q) X.xe s
  refine PySem.W.cmp_K (op := .Eq) (tb := .ref C) hr.r.units0 hF I.ok.mod.kin J J'.type (by simp [PySem.W.notFirst]) hm.at_ hm.fn ?_
  have ln : ([Value.ref a, Value.ref b] ++ []).length = ps.length := by simpa using F.len _ _ _ _ q
  have bd := hb s [.ref a, .ref b] I.kIn ln
  refine wpAny_call (codeAny_mono (F.run X.A X.stack s H ⟨[.ref a, .ref b], []⟩ [.ref a, .ref b] [.ref a, .ref b] _ E hr I.env0 bd (.cons rfl (.cons rfl .nil)) q) fun r s' hq => ?_)
  cases r with
  | error er => exact hx pins σ H s er s' I hq
  | ok fl =>
    cases fl with
    | next => exact hq.elim
    | brk => exact hq.elim
    | cont => exact hq.elim
    | ret u =>
      obtain ⟨v, H', I3, rv, z, rfl, q3⟩ := I.after hq
      cases rv
      exact ⟨.bl z, H', I3, rfl, q3⟩
@[simp] def fEqO (C : Addr) (F : Ctr) (fa fb : FO) : FV := fun ρ Q => fa ρ fun x ρ1 => fb ρ1 fun y ρ2 => ∃ ds es, resT ρ2 x = some (.dat (.obj C ds)) ∧ resT ρ2 y = some (.dat (.obj C es)) ∧ F [.dat (.obj C ds), .dat (.obj C es)] fun r _ => ∃ z, r = .dat (.bl z) ∧ Q (.bl z) ρ2
theorem dv_eqO {K : PySem.W.Frag} {E : XK} {ta tb : TE} {fa fb : FO} (ha : DO K io ta fa) (hb : DO K io tb fb) : DV K io (tOp (rEqO C (spD K F) E) ta tb) (fEqO C F fa fb) := by
  intro B G H σ ρ fp Qd Q hB R hf kk
  refine ha B G H σ ρ fp _ _ hB R hf fun x ρ1 v1 G1 H1 fp1 n1 o1 hf => ?_
  refine hb B G1 H1 σ ρ1 fp1 _ _ hB n1.rp hf fun y ρ2 v2 G2 H2 fp2 n2 o2 ⟨ds, es, e1, e2, hf⟩ => ?_
  obtain ⟨f, ot, _⟩ := (o1.next n2).tree n2.rp e1
  obtain ⟨f2, ot2, _⟩ := o2.tree n2.rp e2
  have rq := ot.dat_inv.1
  have rq2 := ot2.dat_inv.1
  obtain ⟨a, dx, fs, ev, ga, _⟩ := rq.obj_inv
  obtain ⟨b, dy, gs, ew, gb, _⟩ := rq2.obj_inv
  subst ev ew
  refine ⟨a, b, dx, dy, fs, gs, rfl, rfl, n2.rp.co.sub _ _ ga, n2.rp.co.sub _ _ gb, ?_⟩
  refine spD_data (ds := [.obj C ds, .obj C es]) n2.rp (.cons rq (.cons rq2 .nil)) hf fun r as' v G' H' fr n3 ot2 s1 s2 ⟨z, er, q2⟩ => ?_
  have hv : v = .bl z := by
    rw [er] at ot2
    exact ot2.dat_inv.1.bl_inv
  subst hv
  exact ⟨z, rfl, kk (.bl z) ρ2 _ G' H' fp2 ((n1.trans n2).trans n3) (.bl z) q2⟩
theorem p_eqO {fa fb : FO} (h : Hme_ X.prog X.w X.K X.mg X.base C "__eq__" ps k F) (hr : RoomG k X.A) (ha : PDo X io a fa) (hb : PDo X io b fb) : PDv X io (.Compare a [.Eq] [b] pos) (fEqO C F fa fb) := by
  obtain ⟨g, fd, c, hmm, hbb, hF⟩ := h
  obtain ⟨ta, a1, a2⟩ := ha
  obtain ⟨tb, b1, b2⟩ := hb
  exact ⟨_, pe_cmpR (op_eqO (E := fun _ _ _ => False) hmm hF hr hbb pass0) a1 b1 (nomark _), dv_eqO a2 b2⟩
theorem q_eqO {fa fb : FO} (h : Hme_ X.prog X.w X.K X.mg X.base C "__eq__" ps k F) (hr : RoomG k X.A) (ha : PDo X io a fa) (hb : PDo X io b fb) : PDt X io (.Compare a [.Eq] [b] pos) (fTst (fEqO C F fa fb)) := by
  obtain ⟨g, fd, c, hmm, hbb, hF⟩ := h
  obtain ⟨ta, a1, a2⟩ := ha
  obtain ⟨tb, b1, b2⟩ := hb
  exact ⟨_, pt_cmpR (op_eqO (E := fun _ _ _ => False) hmm hF hr hbb pass0) a1 b1 (nomark _), dt_T (dv_eqO a2 b2)⟩
end
end DL

namespace DL
open PySem PySem.Spec PyProof.Rows L2
/-! ### what can be compared by its text and by its marks -/
structure Rt (n sz dp ct : Nat) (d : DD) : Prop where
  c : okC n d
  t : okT n (cp d)
  s : okS (cp d) = true
  z : szT (cp d) ≤ sz
  e : dpT (cp d) ≤ dp
  k : cnt (cp d) ≤ ct
theorem noL_cp {d : DD} (h : noL d = true) : cp d = .dat d := by
  cases d with
  | tup l => rw [cp, if_pos (by simpa [noL] using h)]
  | lst l => cases h
  | _ => rfl
theorem labs_nil_of {l : List DD} (h : ∀ d ∈ l, labD d = []) : labs l = [] := labs_nil h
theorem cnts_sum {ct : Nat} : ∀ {ts : List SV}, (∀ t ∈ ts, cnt t ≤ ct) → cnts ts ≤ ts.length * ct
  | [], _ => Nat.zero_le _
  | t :: r, h => by
    have h1 := h t List.mem_cons_self
    have h2 := cnts_sum fun x m => h x (List.mem_cons_of_mem _ m)
    rw [cnts, List.length_cons, Nat.succ_mul]
    omega
theorem szTs_sum {z : Nat} : ∀ {ts : List SV}, (∀ t ∈ ts, szT t ≤ z) → szTs ts ≤ ts.length * (z + 2)
  | [], _ => Nat.zero_le _
  | t :: r, h => by
    have h1 := h t List.mem_cons_self
    have h2 := szTs_sum fun x m => h x (List.mem_cons_of_mem _ m)
    rw [szTs, List.length_cons, Nat.succ_mul]
    omega
theorem dpTs_max {z : Nat} : ∀ {ts : List SV}, (∀ t ∈ ts, dpT t ≤ z) → dpTs ts ≤ z
  | [], _ => Nat.zero_le _
  | t :: r, h => by
    have h1 := h t List.mem_cons_self
    have h2 := dpTs_max fun x m => h x (List.mem_cons_of_mem _ m)
    rw [dpTs]
    omega
theorem okSs_all : ∀ {ts : List SV}, (∀ t ∈ ts, okS t = true) → okSs ts = true
  | [], _ => rfl
  | t :: r, h => by rw [okSs, h t List.mem_cons_self, okSs_all fun x m => h x (List.mem_cons_of_mem _ m)]; rfl
section
variable {n sz dp ct : Nat} {ds : List DD}
theorem Rt.parts (h : ∀ d ∈ ds, Rt n sz dp ct d) : okSs (ds.map cp) = true ∧ szTs (ds.map cp) ≤ ds.length * (sz + 2) ∧ dpTs (ds.map cp) ≤ dp ∧ cnts (ds.map cp) ≤ ds.length * ct := by
  have each : ∀ {P : SV → Prop}, (∀ d ∈ ds, P (cp d)) → ∀ t ∈ ds.map cp, P t := fun q t m => by
    obtain ⟨d, md, rfl⟩ := List.mem_map.mp m
    exact q d md
  refine ⟨okSs_all (each fun d m => (h d m).s), ?_, dpTs_max (each fun d m => (h d m).e), ?_⟩
  · have := szTs_sum (each fun d m => (h d m).z)
    rwa [List.length_map] at this
  · have := cnts_sum (each fun d m => (h d m).k)
    rwa [List.length_map] at this
theorem Rt.lst (h : ∀ d ∈ ds, Rt n sz dp ct d) (hl : ds.length ≤ 1000) : Rt (n + 1) (ds.length * (sz + 2) + 3) (dp + 1) (ds.length * ct + 1) (.lst ds) := by
  obtain ⟨a1, a2, a3, a4⟩ := Rt.parts h
  have e : cp (.lst ds) = .own (ds.map cp) := by rw [cp, cps_eq]
  refine ⟨⟨by omega, fun d m => (h d m).c⟩, ?_, ?_, ?_, ?_, ?_⟩ <;> rw [e]
  · refine ⟨by rw [List.length_map]; omega, fun t m => ?_⟩
    obtain ⟨d, md, rfl⟩ := List.mem_map.mp m
    exact (h d md).t
  · rw [okS]; exact a1
  · rw [szT]; omega
  · rw [dpT]; omega
  · rw [cnt]; omega
theorem Rt.tup (h : ∀ d ∈ ds, Rt n sz dp ct d) (hl : ds.length ≤ 1000) : Rt (n + 1) (ds.length * (sz + 2) + 3) (dp + 1) (ds.length * ct) (.tup ds) := by
  obtain ⟨a1, a2, a3, a4⟩ := Rt.parts h
  by_cases z : noLs ds = true
  · have e : cp (.tup ds) = .dat (.tup ds) := by rw [cp, if_pos z]
    have nl : ∀ d ∈ ds, noL d = true := by
      clear h a1 a2 a3 a4 e hl
      induction ds with
      | nil => intro d m; cases m
      | cons x r ih =>
        rw [noLs] at z
        have z := Bool.and_eq_true_iff.mp z
        intro d m
        rcases List.mem_cons.mp m with rfl | m
        · exact z.1
        · exact ih z.2 d m
    have ok : okS (.tp (ds.map cp)) = true := by rw [okS]; exact a1
    obtain ⟨b1, b2, b3, b4⟩ := szT_ok _ ok
    have ed : (SV.tp (ds.map cp)).data = .tup ds := by
      rw [SV.data, ← cps_eq, cps_data]
    rw [ed] at b1 b2 b3 b4
    have tt : ∀ d ∈ ds, okL n d ∧ labD d = [] := fun d m => by
      have := (h d m).t
      rw [noL_cp (nl d m)] at this
      cases n with
      | zero => exact this.elim
      | succ n => exact this
    have lb : labs ds = [] := labs_nil_of fun d m => (tt d m).2
    refine ⟨⟨by omega, fun d m => (h d m).c⟩, ?_, ?_, ?_, ?_, ?_⟩ <;> rw [e]
    · refine ⟨⟨by omega, by rw [lb]; simp, fun d m => (tt d m).1⟩, ?_⟩
      rw [labD, lb]
    · rw [okS, b1, b2]; rfl
    · rw [szT]
      simp only [szT] at b3
      omega
    · rw [dpT]
      simp only [dpT] at b4
      omega
    · rw [cnt]; exact Nat.zero_le _
  · have e : cp (.tup ds) = .tp (ds.map cp) := by rw [cp, if_neg z, cps_eq]
    refine ⟨⟨by omega, fun d m => (h d m).c⟩, ?_, ?_, ?_, ?_, ?_⟩ <;> rw [e]
    · refine ⟨by rw [List.length_map]; omega, fun t m => ?_⟩
      obtain ⟨d, md, rfl⟩ := List.mem_map.mp m
      exact (h d md).t
    · rw [okS]; exact a1
    · rw [szT]; omega
    · rw [dpT]; omega
    · rw [cnt]; omega
theorem Rt.mono {d : DD} {sz' dp' ct' : Nat} (h : Rt n sz dp ct d) (a : sz ≤ sz' := by omega) (b : dp ≤ dp' := by omega) (c : ct ≤ ct' := by omega) : Rt n sz' dp' ct' d := ⟨h.c, h.t, h.s, Nat.le_trans h.z a, Nat.le_trans h.e b, Nat.le_trans h.k c⟩
theorem Rt.of {d : DD} (r : Rz sz dp d) (hc : okC (n + 1) d) (hl : okL (n + 1) d) (hb : labD d = []) (he : cp d = .dat d) : Rt (n + 1) sz dp 0 d := by
  refine ⟨hc, ?_, ?_, ?_, ?_, ?_⟩ <;> rw [he]
  · exact ⟨hl, hb⟩
  · rw [okS, r.p, r.s]; rfl
  · exact r.l
  · exact r.e
  · exact Nat.le_refl _
theorem Rt.int {i : Int} (h : Sm 12900 i) : Rt (n + 1) 12901 0 0 (.int i) := Rt.of (Rz.big h) trivial trivial rfl rfl
theorem Rt.sml {i : Int} (h : Sm 60 i) : Rt (n + 1) 61 0 0 (.int i) := by
  have hl := h.log (by decide)
  refine Rt.of ⟨rfl, by simp [DD.py, shw]; omega, ?_, Nat.le_refl _⟩ trivial trivial rfl rfl
  show (Str.ofString (toString i)).length ≤ 61
  rw [PySem.ofString_length]
  exact PySem.int_text_length_le (k := 60) (by decide) hl
theorem Rt.nat {k : Nat} (h : k < 2 ^ 60) : Rt (n + 1) 61 0 0 (.int k) := .sml (by unfold Sm; simpa using h)
theorem Rt.ratS {q : Rat} (h : Qb 60 q) : Rt (n + 2) 129 1 0 (rT q) := by
  have := Rt.tup (n := n + 1) (sz := 61) (dp := 0) (ct := 0) (ds := [.int q.num, .int q.den]) (fun d m => by
    rcases List.mem_cons.mp m with rfl | m
    · exact .sml h.n
    · rw [List.mem_singleton.mp m]; exact .sml h.d) (by simp)
  exact this.mono (by simp)
theorem Rt.nonS : Rt (n + 1) 61 0 0 .non := Rt.of (Rz.non.mono (by decide) (by decide)) trivial trivial rfl rfl
theorem Rt.strS {x : Str} (h : (reprText x).length ≤ 61) : Rt (n + 1) 61 0 0 (.str x) := Rt.of (sz := 61) (dp := 0) ⟨rfl, by simp [DD.py, shw], by simpa [shD, DD.py, PyData.shown] using h, Nat.zero_le _⟩ trivial trivial rfl rfl
theorem Rt.non : Rt (n + 1) 12901 0 0 .non := Rt.of (Rz.non.mono (by decide) (by decide)) trivial trivial rfl rfl
theorem Rt.bl {b : Bool} : Rt (n + 1) 12901 0 0 (.bl b) := Rt.of (Rz.bl.mono (by decide) (by decide)) trivial trivial rfl rfl
theorem Rt.str {x : Str} (h : (reprText x).length ≤ 12901) : Rt (n + 1) 12901 0 0 (.str x) := Rt.of (sz := 12901) (dp := 0) ⟨rfl, by simp [DD.py, shw], by simpa [shD, DD.py, PyData.shown] using h, Nat.zero_le _⟩ trivial trivial rfl rfl
theorem Rt.rat {q : Rat} (h : Qb 12900 q) : Rt (n + 2) 25809 1 0 (rT q) := by
  have := Rt.tup (n := n + 1) (sz := 12901) (dp := 0) (ct := 0) (ds := [.int q.num, .int q.den]) (fun d m => by
    rcases List.mem_cons.mp m with rfl | m
    · exact .int h.n
    · rw [List.mem_singleton.mp m]; exact .int h.d) (by simp)
  exact this.mono (by simp)
theorem Rt.right {d : DD} (h : Rt 8 sz dp ct d) (hz : sz + ct * 1923 ≤ 2 ^ 24) (hk : ct < 2 ^ 20) (hd : dp ≤ 60) : okC 8 d ∧ okT 8 (cp d) ∧ cnt (cp d) < 2 ^ 20 ∧ okR d ∧ okR (markT (cp d)).data := by
  have := tree_okR (t := cp d) h.s (by have := h.z; have := Nat.mul_le_mul_right 1923 h.k; omega) (by have := h.k; omega) (by have := h.e; omega)
  rw [cp_data] at this
  exact ⟨h.c, h.t, Nat.lt_of_le_of_lt h.k hk, this.1, this.2⟩
theorem Rt.okR {d : DD} (h : Rt n sz dp ct d) (hz : sz + ct * 1923 ≤ 2 ^ 24) (hk : ct < 2 ^ 20) (hd : dp ≤ 60) : okR d := by
  have := tree_okR (t := cp d) h.s (by have := h.z; have := Nat.mul_le_mul_right 1923 h.k; omega) (by have := h.k; omega) (by have := h.e; omega)
  rw [cp_data] at this
  exact this.1
end
end DL

namespace DL
open PySem PySem.Spec PyProof.Rows L2
/-! ### own exception classes with an __init__ of the text that keeps its one argument as value -/
structure XCl (K : PySem.W.Frag) (C fI : Addr) : Prop where
  o : OexC K C
  x : XfC K C
  e : ExcC K C
  i : PySem.W.findIn K (.ref C) "__init__" = some (some (.ref fI))
  t : PySem.W.typeIn K (.ref fI) = some (.type "function")
  v : PySem.W.findIn K (.ref C) "value" = some none
def oexB (K : PySem.W.Frag) (C : Addr) : Bool := match K.lookup C with
  | some ⟨.type "type", _, .cls cd, sl⟩ => (match cd.mro, sl.toList with
    | .ref D :: bm, [_, _, _, _, some (.builtin n), _] => decide (D = C) && (decide (n = "ValueError.__new__") && (!cd.hasDel && (cd.hasDict && PySem.HandSPX.refsVE bm)))
    | _, _ => false)
  | _ => false
theorem oexB_ok {K : PySem.W.Frag} {C : Addr} (q : oexB K C = true) : ∃ nm q N bs bm sn sub ab col dd k0 k1 k2 k3 k5, K.lookup C = some (excClassObj nm q C N bs bm true sn sub ab col dd k0 k1 k2 k3 k5 "ValueError.__new__") ∧ PySem.HandSPX.refsVE bm = true := by
  unfold oexB at q
  split at q
  · rename_i dd cd sl ho
    split at q
    · rename_i D bm k0 k1 k2 k3 n k5 hm hs
      simp only [Bool.and_eq_true, decide_eq_true_eq, Bool.not_eq_true'] at q
      obtain ⟨rfl, rfl, hdel, hdi, hb⟩ := q
      obtain ⟨nm, bs, mro, ns, qn, hd, sn, sub, ab, col, del⟩ := cd
      dsimp only at hm hdel hdi
      subst hm hdel hdi
      have hsl : sl = #[k0, k1, k2, k3, some (.builtin "ValueError.__new__"), k5] := by
        obtain ⟨l⟩ := sl
        simp only at hs
        rw [hs]
      subst hsl
      exact ⟨nm, qn, ns, bs, bm, sn, sub, ab, col, dd, k0, k1, k2, k3, k5, ho, hb⟩
    · cases q
  · cases q
def eqV (a b : Option (Option Value)) : Bool := decide (a = b)
def xclB (K : PySem.W.Frag) (C fI : Addr) : Bool :=
  oexB K C && (decide (PySem.W.findIn K (.ref C) "__setattr__" = some (some (.builtin "object.__setattr__"))) && (decide (PySem.W.subIn K (.ref C) (.type "BaseException") = some true) && (decide (PySem.W.typeIn K (.ref C) = some (.type "type")) && (PySem.W.keepIn K (.ref C) &&
  (xfB K C && (decide (PySem.W.findIn K (.ref C) "__class__" = some (some (.builtin "object.__class__"))) && (decide (PySem.W.specialIn K (.builtin "object.__class__") "__get__" = some (some (.builtin "getset_descriptor.__get__"))) && (decide (PySem.W.takesIn K (.builtin "object.__class__") = some true) && (decide (PySem.W.mroIn K C (.type "object") = some true) &&
  (decide (PySem.W.findIn K (.ref C) "__init__" = some (some (.ref fI))) && (decide (PySem.W.typeIn K (.ref fI) = some (.type "function")) && decide (PySem.W.findIn K (.ref C) "value" = some none))))))))))))
theorem xclB_ok {K : PySem.W.Frag} {C fI : Addr} (h : xclB K C fI = true) : XCl K C fI := by
  unfold xclB at h
  simp only [Bool.and_eq_true, decide_eq_true_eq] at h
  obtain ⟨h1, h2, h3, h4, h5, h6, h7, h8, h9, h10, h11, h12, h13⟩ := h
  have x := xfB_ok h6
  exact ⟨⟨oexB_ok h1, h2, h3, h4, h5⟩, x, ⟨x.ga, x.gg, x.exC, x.hdC, h7, h8, h9, h10⟩, h11, h12, h13⟩
/-! #### __init__ -/
def spTI (K : PySem.W.Frag) : Sp := fun vs H Q _ => ∃ a C v, vs = [.ref a, v] ∧ OexC K C ∧ PySem.W.findIn K (.ref C) "value" = some none ∧ H a = some (exo a C none) ∧ ∀ dx, H dx = none → dx ≠ a → Q .non (upd (upd H dx (exd dx [(("value" : Str), v)])) a (exo a C (some dx)))
def tTI (K : PySem.W.Frag) (m : Str) : TS := tSeq (tDrop (tVeI K (tCons (tVar 0) (tCons (tC (.str m)) tNil)))) (tOst K "value" (tVar 0) (tVar 1))
section
variable {P : Program} {w : World} {K : PySem.W.Frag} {mg : Str → Option Value} {base : Heap} {f : Addr} {fd : FuncData} {x qual : Str} {params : Arguments} {body : List Stmt} {scope : Scope} {N ps : List Str} {k : Nat}
theorem tank_fn {m : Str} (F0 : FunD K x qual params body scope [] [] f fd) (S : FnScope N ps scope) (hN : N.length = 2) (hp : ps.length = 2)
    (hbody : ∀ (cdv : Value) (A : Around) (outer : List Env) (s : Shared) (H : Hp) (E : XK), PSs (cxOf CX0 P w K mg base N qual scope f cdv A outer s H E) body (tTI K m)) : FnOk P w K mg base CX0 1 f fd ps (spTI K) := by
  obtain ⟨oc, od, dV, kV, doc, pm, an, cdv, ct, osl, rfl, lk, hcd, _, _⟩ := F0.ex
  refine fn_of (k := 0) lk hcd S (fun vs H Q E ⟨a, C, v, e, _⟩ => by rw [e, hp]; rfl) fun A outer s H vs Q E hr ⟨a, C, v, e, T, hv, ha, kk⟩ => ⟨_, hbody cdv A outer s H E, ?_⟩
  subst e
  have es : L2.start N [V.ref a, v] = [some (.ref a), some v] := by
    unfold L2.start
    rw [hN]
    rfl
  rw [es]
  refine ⟨.ref a, rfl, a, C, [V.str m], rfl, by simp, T, ha, ?_⟩
  refine ⟨v, rfl, .ref a, rfl, a, C, rfl, T, hv, .inl ⟨ha, fun dx hd ne => ?_⟩⟩
  exact kk dx hd ne
end
/-! #### raise C(e) -/
theorem mk_tank {K : PySem.W.Frag} {C : Addr} {ta : TA} {σ : L2.St} {H : Hp} {Q : XK} (T : OexC K C) (hv : PySem.W.findIn K (.ref C) "value" = some none)
    (h : ta σ H fun vs H1 => ∃ v, vs = [v] ∧ ∀ dx, H1 dx = none → Q (.ref C) (some dx) (upd H1 dx (.xd [(("value" : Str), v)]))) : (∀ (Q1 Q2 : List V → Hp → Prop), (∀ vs H, Q1 vs H → Q2 vs H) → ta σ H Q1 → ta σ H Q2) → tMkO C (spTI K) [] ta σ H Q := by
  intro mono
  refine mono _ _ (fun vs H1 ⟨v, e, q⟩ => ?_) h
  subst e
  refine ⟨by simp, fun a ha => ⟨a, C, v, rfl, T, hv, upd_same, fun dx hd ne => ⟨rfl, dx, [(("value" : Str), v)], upd_same, by rw [upd_ne ne, upd_same], ?_, ?_⟩⟩⟩
  · rw [upd_ne ne] at hd; exact hd
  · have hd1 : H1 dx = none := by rw [upd_ne ne] at hd; exact hd
    have e : upd (del (upd (upd (upd H1 a (exo a C none)) dx (exd dx [(("value" : Str), v)])) a (exo a C (some dx))) a) dx (.xd [(("value" : Str), v)]) = upd H1 dx (.xd [(("value" : Str), v)]) := by
      funext b
      by_cases h1 : b = dx
      · rw [h1, upd_same, upd_same]
      · rw [upd_ne h1, upd_ne h1]
        by_cases h2 : b = a
        · rw [h2, del_same, ha]
        · rw [del_ne h2, upd_ne h2, upd_ne h1, upd_ne h2]
    rw [e]
    exact q dx hd1
/-- the class at C is raised -/
def Hraise (P : Program) (w : World) (K : PySem.W.Frag) (mg : Str → Option Value) (base : Heap) (C : Addr) (x : Str) : Prop :=
  ∃ fI fd, mg x = some (.ref C) ∧ XCl K C fI ∧ Binds K fd ["self", "value"] [] ∧ FnOk P w K mg base CX0 1 fI fd ["self", "value"] (spTI K)
section
variable {X : Cx} {W : WX} {io : List Nat} {e : Expr} {pos p pos2 : Pos} {x : Str} {C : Addr} {fv : FV} {k : Nat}
@[simp] def xRaise (C : Addr) (fe : FE) : FX := fun Wd _ ρ => fe ρ fun d ρ1 => Wd C d ρ1
theorem x_raise {fe : FE} (h : Hraise X.prog X.w X.K X.mg X.base C x) (hc : X.calm = true) (tk : Takes X W) (hr : RoomG 2 X.A) (ha : PDe X io e fe) (hg : Gl X x := by rfl) (hdb : (x == ("__debug__" : Str)) = false := by decide)
    (he : starEach [e] X.env = (false, eval e X.env) :: starEach [] X.env := by rfl) (hpl : (backTo pos (starEach [] X.env)).any (·.1) = false := by rfl) : PDx X W io (.Raise (some (.Call (.Name x p) [e] [] pos)) none pos2) (xRaise C fe) := by
  obtain ⟨fI, fd, hm, T, hb, F⟩ := h
  obtain ⟨te, a1, a2⟩ := ha
  refine ⟨_, ps_raise hc tk (pmk_oex (k := 1) (dvs := []) T.o T.i T.t F (hr.r.mono (by omega)) hb .nil pass0 hg hm (pa_cons a1 pa_nil he) hdb he hpl), fun B G H σ ρ fp Dd Dh Wd hB R hf s sx => ?_⟩
  refine a2 B G H σ ρ fp _ _ hB R hf fun t ρ1 v G1 H1 fp1 fr n1 ot d1 d2 q => ?_
  refine mk_tank (ta := fun (_ : L2.St) H Q => Q [v] H) (σ := σ) (H := H1) (Q := fun cls d H' => W cls d σ H') T.o T.v ⟨v, rfl, fun dx hd => ?_⟩ (fun Q1 Q2 h z => h _ _ z)
  have gx : G1 dx = none := by
    cases e : G1 dx with
    | none => rfl
    | some u => have := n1.rp.co.sub _ _ e; rw [hd] at this; cases this
  have n2 := Nxt.stand n1.rp (o := .xd [(("value" : Str), v)]) hd
  have ne : ∀ a ∈ fr, a ≠ dx := fun a m z => by
    obtain ⟨⟨o, h⟩, _⟩ := ot.here a m
    rw [z, hd] at h; cases h
  refine sx.ex _ _ _ _ _ C dx v t fr n2.rp upd_same (ot.mono (fun a o e => ?_) (fun a m o e => ?_) fun a m => ?_) d1 (R.base d2) q
  · rw [upd_ne (ne_of_none e gx)]; exact e
  · rw [upd_ne (ne a m)]; exact e
  · rw [upd_ne (ne a m)]; exact (ot.here a m).2
end
/-! #### isinstance of a caught one -/
section
variable {K : PySem.W.Frag} {D x : Addr} {ox : Obj} {od : Obj}
theorem kin_classD {prog : Program} {w : World} {A : Around} {E : Value → Shared → Prop} {s : Shared} {Q : Option Value → Shared → Prop} (T : ExcC K D) (X : K.In s.heap) (I : PySem.W.InstAt s.heap x ox D (some od)) (h : Q (some (.ref D)) { s with toks := s.toks + 1 }) : wpAny (model prog w) A (getAttr? (.ref x) "__class__") Q E s := by
  obtain ⟨hga, hgt, hsub, hdct, ha, hn, htk, hm⟩ := T
  have hf : PySem.W.findObj K D (some od) "__class__" = some (.bind (.builtin "getset_descriptor.__get__") (.builtin "object.__class__")) := PySem.W.findObj_data (by obtain ⟨cd, hc, _⟩ := PySem.W.any_some hdct; rw [hc]; rfl) ha hn htk
  obtain ⟨hp, g, d, t, os⟩ := s
  have L0 := I.type (M := model prog w)
  have L1 := PySem.W.looks_findIn (M := model prog w) X hga
  have L2 := PySem.W.looks_findIn (M := model prog w) X hgt
  have L3 := PySem.W.looks_find (M := model prog w) X I hf
  have sub : PySem.W.Looks (model prog w) hp (isInstance (.ref x) (.type "BaseException")) true := L0.andThen (PySem.W.looks_subIn X hsub)
  have hx0 : (false && onTheHeap (Value.builtin "BaseException.__getattribute__")) = false := rfl
  have hx2 : (Value.builtin "BaseException.__getattribute__" == Value.builtin "object.__getattribute__") = false := by decide +kernel
  have hx1 : (onTheHeap (Value.ref D) && Value.builtin "BaseException.__getattribute__" == Value.builtin "object.__getattribute__") = false := by rw [hx2]; rfl
  unfold getAttr? getAttrBy? getAttrBy
  refine wpAny_bind (wpAny_mkText (wpAny_bind (wpAny_attempt (wpAny_holding (wpAny_bind (L0.at (wpAny_bind (L1.at ?_))))))))
  show wpAny _ _ (if (onTheHeap (Value.ref D) && Value.builtin "BaseException.__getattribute__" == Value.builtin "object.__getattribute__") = true then _ else _) _ _ _
  rw [hx1, if_neg Bool.false_ne_true]
  unfold getAttrByItsOwn hookBefore
  refine wpAny_bind ?_
  rw [if_pos (show onTheHeap (Value.ref D) = true from rfl)]
  refine L2.at ?_
  refine wpAny_bind (wpAny_attempt (wpAny_holding ?_))
  unfold callGetattribute
  rw [hx0, if_neg Bool.false_ne_true]
  unfold boundAndCalled
  rw [PySem.F.excAttr_ValueError.ga.bind (.ref x)]
  refine wpAny_bind (wpAny_pure ?_)
  show wpAny _ _ (call (.builtin "BaseException.__getattribute__") [.ref x, .str "__class__" t]) _ _ _
  refine wpAny_call (codeAny_call_builtin PySem.F.excAttr_ValueError.ga.plain PySem.F.entry_bexc_ga ?_)
  refine @PySem.W.check_slot (model prog w) _ _ ⟨hp, g, d, t + 1, os⟩ "BaseException.__getattribute__" "BaseException" "__getattribute__" (.ref x) [.str "__class__" t] [] _ (by decide +kernel) (by decide +kernel) sub (PySem.F.args_bexc_ga (.ref x) (.str "__class__" t)) ?_
  unfold Builtin.«object.__getattribute__»
  refine wpAny_bind (wpAny_of_eq (a := ((Value.ref x : Value), [Value.str "__class__" t])) (by first | rfl | (simp only [slotArgs]; rfl)) ?_)
  refine wpAny_bind (wpAny_pure (wpAny_bind (L0.at (wpAny_bind (L3.at ?_)))))
  show wpAny _ _ (holding [Value.builtin "object.__class__"] (call (.builtin "getset_descriptor.__get__") [.builtin "object.__class__", .ref x, .ref D]) >>= ret) _ _ _
  refine wpAny_bind (wpAny_holding (wpAny_call (PySem.W.class_get (s := ⟨hp, g, d, t + 1, os⟩) (ox := ox) (od := some od) X I hm ?_)))
  refine wpAny_pure ?_
  show wpAny _ _ (handedOut (.ref D)) _ _ _
  rw [PySem.W.handedOut_of (v := .ref D) rfl]
  first
    | exact wpAny_pure (wpAny_pure h)
    | exact wpAny_pure h
    | exact wpAny_pure (wpAny_bind (wpAny_pure (wpAny_pure h)))
theorem kitx_D (T : ExcC K D) : PySem.W.KitX K (.ref x) (.ref D) (fun h => PySem.W.InstAt h x ox D (some od)) where
  ty := fun _ _ _ I => I.type
  it := fun _ _ X _ => by
    obtain ⟨cdD, hcD, _⟩ := PySem.W.any_some T.hd
    unfold PySem.W.clsIn at hcD
    split at hcD
    · rename_i c' d' cd' sl' ho
      intro A' Q' E' s' k q
      unfold isType loadHead
      exact wpAny_bind (wpAny_loadPart (k _ _ (X _ _ ho)) (wpAny_pure q))
    · cases hcD
  ne := fun h tp dd its n sl X htp => by
    obtain ⟨cdD, hcD, _⟩ := PySem.W.any_some T.hd
    refine Bool.eq_false_iff.mpr fun q => ?_
    have e : D = tp := Value.ref.inj (beq_iff_eq.mp q)
    subst e
    unfold PySem.W.clsIn at hcD
    split at hcD
    · rename_i c' d' cd' sl' ho
      have z := (X _ _ ho).symm.trans htp
      cases z
    · cases hcD
  ca := fun X I k => kin_classD T X I k
end
/-- isinstance(e, c), e the exception that the suite holds, its dict at dx -/
def rIsX (K : PySem.W.Frag) (D a dx : Addr) : List V → Hp → VK → Prop := fun xs H Q => ∃ (c : V) (cv : Value) (b : Bool) (fs : List (Str × V)), xs = [.ref a, c] ∧ H dx = some (.xd fs) ∧ (∀ u, RelV c u → u = cv) ∧ PySem.W.kitOne K (.ref D) cv = some b ∧ Q (.bl b) H
theorem call_isX {X : Cx} {a D dx : Addr} {oe : Obj} {pn : List (Addr × Obj)} (C : ExcC X.K D) (hz : Zc (.ref D) (some dx) oe) (hf : ∃ vs, oe.data = .fields vs) : CallR (X.suite a ((a, oe) :: pn)) (.builtin "isinstance") (rIsX X.K D a dx) := by
  intro pins s σ H xs us Q I r h
  obtain ⟨c, cv, b, fs, rfl, hd, hcv, e, q⟩ := h
  cases r with
  | cons rx rr =>
    cases rr with
    | cons rt rr =>
      cases rr
      cases rx
      have ec := hcv _ rt
      subst ec
      obtain ⟨hget, _⟩ := I.pin (a, oe) (List.mem_append.mpr (.inl List.mem_cons_self))
      obtain ⟨vs, hv⟩ := hf
      have hx : ObjOk X.prog X.w H s.heap dx (.xd fs) := I.hok dx _ hd
      obtain ⟨mA, hns, hr⟩ := hx
      obtain ⟨od, ho, hl⟩ := lookIn_ns hns
      have J : PySem.W.InstAt s.heap a oe D (some od) := ⟨hget, hz.1, by unfold PySem.W.notCls; rw [hv] <;> rfl, by rw [hz.2]; exact ho⟩
      exact PySem.W.kia_one (kitx_D C) I.kIn J e (fun z => nomatch z) fun tk => ⟨.bl b, H, I.kept (t' := tk) fun _ _ z => z, rfl, q⟩
end DL

namespace DL
open PySem PySem.Spec PyProof.Rows L2
/-! ### expressions that may let an exception out -/
abbrev FEx := WD → FE
def DEx (K : PySem.W.Frag) (io : List Nat) (W : WX) (te : TE) (fe : FEx) : Prop := ∀ (B : Bs) G H σ ρ fp (Qd : SV → Rho → Prop) (Q : VK) (Wd : WD), B.io = io → Rp K B G H σ ρ fp → fe Wd ρ Qd → SimX K B Wd W →
  (∀ r ρ' v G' H' fp' fr, Nxt K B σ G H fp G' H' ρ' fp' → OT K G' H' v r fr → (∀ a ∈ fr, ¬ In fp' a) → (∀ a ∈ fr, H a = none ∨ In fp a) → Qd r ρ' → Q v H') → te σ H Q
def PDex (X : Cx) (W : WX) (io : List Nat) (e : Expr) (fe : FEx) : Prop := ∃ te, PE X e te ∧ DEx X.K io W te fe
abbrev FAsx := WD → FAs
def DAsx (K : PySem.W.Frag) (io : List Nat) (W : WX) (ta : TA) (fa : FAsx) : Prop := ∀ (B : Bs) G H σ ρ fp (Qd : List AV → Rho → Prop) (Q : List V → Hp → Prop) (Wd : WD), B.io = io → Rp K B G H σ ρ fp → fa Wd ρ Qd → SimX K B Wd W →
  (∀ avs ρ' vs G' H' fp' fr, Nxt K B σ G H fp G' H' ρ' fp' → AVR K G' H' σ vs avs fr → (∀ a ∈ fr, ¬ In fp' a) → (∀ a ∈ fr, H a = none ∨ In fp a) → Qd avs ρ' → Q vs H') → ta σ H Q
def PDasx (X : Cx) (W : WX) (io : List Nat) (es : List Expr) (fa : FAsx) : Prop := ∃ ta, PA X es ta ∧ DAsx X.K io W ta fa
/-- normal ends, or an exception -/
def spB (K : PySem.W.Frag) (F : Ctr) (Fx : XCtr) : Sp := fun vs H Q E => spD K F vs H Q E ∨ spE K Fx vs H Q E
def Hb (P : Program) (w : World) (K : PySem.W.Frag) (mg : Str → Option Value) (base : Heap) (x : Str) (ps : List Str) (k : Nat) (F : Ctr) (Fx : XCtr) : Prop :=
  ∃ f fd, mg x = some (.ref f) ∧ PySem.W.keepIn K (.ref f) = true ∧ Binds K fd ps [] ∧ FnG P w K mg base (L2.CX P w) k f fd ps (spB K F Fx)
def noX : XCtr := fun _ _ => False
def noF : Ctr := fun _ _ => False
theorem FnG.up {P : Program} {w : World} {K : PySem.W.Frag} {mg : Str → Option Value} {base : Heap} {k : Nat} {f : Addr} {fd : FuncData} {ps : List Str} {sp : Sp} (F : FnG P w K mg base CX0 k f fd ps sp) : FnG P w K mg base (L2.CX P w) k f fd ps sp :=
  ⟨F.len, fun A outer s H args us vs Q E hr e0 hb hv hs => codeAny_mono (F.run A outer s H args us vs Q E hr e0 hb hv hs) fun r s' h => by
    cases r with
    | error e => exact h.elim
    | ok fl => cases fl <;> exact h⟩
theorem FnG.both {P : Program} {w : World} {K : PySem.W.Frag} {mg : Str → Option Value} {base : Heap} {k j : Nat} {f : Addr} {fd : FuncData} {ps : List Str} {F : Ctr} {Fx : XCtr} (h1 : FnG P w K mg base CX0 k f fd ps (spD K F)) (h2 : FnG P w K mg base (L2.CX P w) j f fd ps (spE K Fx)) :
    FnG P w K mg base (L2.CX P w) (max k j) f fd ps (spB K F Fx) :=
  ⟨fun vs H Q E h => h.elim (h1.len vs H Q E) (h2.len vs H Q E), fun A outer s H args us vs Q E hr e0 hb hv hs => hs.elim
    (fun q => (h1.up.mono (Nat.le_max_left _ _)).run A outer s H args us vs Q E hr e0 hb hv q) fun q => (h2.mono (Nat.le_max_right _ _)).run A outer s H args us vs Q E hr e0 hb hv q⟩
theorem FnG.onlyX {P : Program} {w : World} {K : PySem.W.Frag} {mg : Str → Option Value} {base : Heap} {k : Nat} {f : Addr} {fd : FuncData} {ps : List Str} {Fx : XCtr} (h2 : FnG P w K mg base (L2.CX P w) k f fd ps (spE K Fx)) :
    FnG P w K mg base (L2.CX P w) k f fd ps (spB K noF Fx) := h2.imp fun vs H Q E h => h.elim (fun ⟨_, _, _, _, _, z, _⟩ => z.elim) id
section
variable {X : Cx} {W : WX} {io : List Nat} {e : Expr} {es : List Expr} {pos p pos2 : Pos} {x : Str} {k : Nat} {ps : List Str} {F : Ctr} {Fx : XCtr} {fe : FEx} {fa fr : FAsx} {st : Stmt}
theorem ex_of {fe : FE} (h : PDe X io e fe) : PDex X W io e (fun _ => fe) := by
  obtain ⟨te, h1, h2⟩ := h
  exact ⟨te, h1, fun B G H σ ρ fp Qd Q Wd hB R hf _ k => h2 B G H σ ρ fp Qd Q hB R hf k⟩
theorem ax_of {fa : FAs} (h : PDas X io es fa) : PDasx X W io es (fun _ => fa) := by
  obtain ⟨te, h1, h2⟩ := h
  exact ⟨te, h1, fun B G H σ ρ fp Qd Q Wd hB R hf _ k => h2 B G H σ ρ fp Qd Q hB R hf k⟩
@[simp] def axNil : FAsx := fun _ ρ Q => Q [] ρ
@[simp] def axVal (fe : FEx) (fr : FAsx) : FAsx := fun Wd ρ Q => fe Wd ρ fun x ρ1 => fr Wd ρ1 fun xs ρ2 => Q (.val x :: xs) ρ2
@[simp] def axRef (i : Nat) (fr : FAsx) : FAsx := fun Wd ρ Q => (∃ t, ρ[i]? = some (some t)) ∧ fr Wd ρ fun xs ρ2 => Q (.ref i :: xs) ρ2
theorem ax_nil : PDasx X W io [] axNil := ⟨_, pa_nil, fun B G H σ ρ fp Qd Q Wd hB R hf _ k => k [] ρ [] G H fp [] (Nxt.refl R) .nil (fun _ z => nomatch z) (fun _ z => nomatch z) hf⟩
theorem ax_val (ha : PDex X W io e fe) (hr : PDasx X W io es fr) (hs : starEach (e :: es) X.env = (false, eval e X.env) :: starEach es X.env := by rfl) : PDasx X W io (e :: es) (axVal fe fr) := by
  obtain ⟨_, a1, a2⟩ := ha
  obtain ⟨_, b1, b2⟩ := hr
  refine ⟨_, pa_cons a1 b1 hs, fun B G H σ ρ fp Qd Q Wd hB R hf sx k => ?_⟩
  refine a2 B G H σ ρ fp _ _ Wd hB R hf sx fun x ρ1 v1 G1 H1 fp1 f1 n1 o1 t1 t1' hf => ?_
  refine b2 B G1 H1 σ ρ1 fp1 _ _ Wd hB n1.rp hf sx fun xs ρ2 vs G2 H2 fp2 f2 n2 os t2 t2' q => ?_
  have o1' : OT X.K G2 H2 v1 x f1 := o1.mono n2.st.ex (fun a m o h => n2.st.keep a o (t1 a m) h) fun a m => by
    obtain ⟨⟨u, h⟩, g⟩ := o1.here a m
    exact n2.st.hid a u (t1 a m) h g
  refine k _ ρ2 _ G2 H2 fp2 (f1 ++ f2) (n1.trans n2) (.val o1' os fun a m m' => ?_) (fun a m => ?_) (fun a m => ?_) q
  · rcases t2' a m' with z | z
    · obtain ⟨⟨u, h⟩, _⟩ := o1.here a m
      rw [z] at h; cases h
    · exact t1 a m z
  · rcases List.mem_append.mp m with m | m
    · intro i
      rcases n2.inn a i with z | z
      · exact t1 a m z
      · obtain ⟨⟨u, h⟩, _⟩ := o1.here a m
        rw [z] at h; cases h
    · exact t2 a m
  · rcases List.mem_append.mp m with m | m
    · exact t1' a m
    · rcases t2' a m with z | z
      · by_cases q : In fp a
        · exact .inr q
        · exact .inl (n1.st.fresh q z)
      · exact (n1.inn a z).symm
theorem ax_ref {te : TE} (i : Nat) (h : PE X e te) (ht : te = tVar i) (hr : PDasx X W io es fr) (hs : starEach (e :: es) X.env = (false, eval e X.env) :: starEach es X.env := by rfl) : PDasx X W io (e :: es) (axRef i fr) := by
  subst ht
  obtain ⟨_, b1, b2⟩ := hr
  refine ⟨_, pa_cons h b1 hs, fun B G H σ ρ fp Qd Q Wd hB R hf sx k => ?_⟩
  obtain ⟨⟨t, e1⟩, hf⟩ := hf
  obtain ⟨v, e2, _⟩ := R.co.slot i t e1
  refine ⟨v, e2, ?_⟩
  exact b2 B G H σ ρ fp _ _ Wd hB R hf sx fun xs ρ2 vs G2 H2 fp2 f2 n2 os t2 t2' q => k _ ρ2 _ G2 H2 fp2 f2 n2 (.ref e2 os) t2 t2' q
/-- f(a, ..): ends, or raises -/
@[simp] def fCallX (F : Ctr) (Fx : XCtr) (fa : FAsx) : FEx := fun Wd ρ Q => fa Wd ρ fun avs ρ1 => ∃ as, resA ρ1 avs = some as ∧ (refs avs).Nodup ∧ ((F as fun r as' => Q r (wb ρ1 avs as')) ∨ Fx as fun C d as' => Wd C d (wb ρ1 avs as'))
theorem de_callX {K : PySem.W.Frag} {t : TA} (h : DAsx K io W t fa) : DEx K io W (tCallS (spB K F Fx) (WE W) t) (fCallX F Fx fa) := by
  intro B G H σ ρ fp Qd Q Wd hB R hf sx k
  refine h B G H σ ρ fp _ _ Wd hB R hf sx fun avs ρ1 vs G1 H1 fp1 fr n1 ar t1 t2 ⟨as, ha, nd, hF⟩ => ?_
  rcases hF with hF | hF
  · exact .inl (call_core R n1 ar t1 t2 ha nd hF k)
  · exact .inr (exc_core R n1 ar t1 t2 ha nd hF sx)
theorem ex_call (tk : Takes X W) (h : Hb X.prog X.w X.K X.mg X.base x ps k F Fx) (hr : RoomG k X.A) (ha : PDasx X W io (e :: es) fa) (hg : Gl X x := by rfl) (hdb : (x == ("__debug__" : Str)) = false := by decide)
    (he : starEach (e :: es) X.env = (false, eval e X.env) :: starEach es X.env := by rfl) (hpl : (backTo pos (starEach es X.env)).any (·.1) = false := by rfl) : PDex X W io (.Call (.Name x p) (e :: es) [] pos) (fCallX F Fx fa) := by
  obtain ⟨f, fd, h1, h2, h3, h4⟩ := h
  obtain ⟨t, a1, a2⟩ := ha
  exact ⟨_, pe_callSG h4 hr hg h1 h2 h3 (fun σ => passAt tk σ) a1 hdb he hpl, de_callX a2⟩
/-! statements -/
@[simp] def xDrop (fe : FEx) : FX := fun Wd D ρ => fe Wd ρ fun _ ρ1 => D.nx ρ1
theorem x_expr (h : PDex X W io e fe) (hs : swapsWith e none pos.line X.env = pure false := by rfl) : PDx X W io (.Expr e pos) (xDrop fe) := by
  obtain ⟨t, a1, a2⟩ := h
  exact ⟨_, ps_expr a1 hs, fun B G H σ ρ fp Dd Dh Wd hB R hf s sx => a2 B G H σ ρ fp _ _ Wd hB R hf sx fun r ρ' v G' H' fp' fr n ot t1 t2 q => s.nx _ _ _ _ _ n.rp q⟩
@[simp] def xRet (fe : FEx) : FX := fun Wd D ρ => fe Wd ρ D.rt
theorem x_ret (h : PDex X W io e fe) : PDx X W io (.Return (some e) pos) (xRet fe) := by
  obtain ⟨t, a1, a2⟩ := h
  exact ⟨_, ps_ret a1, fun B G H σ ρ fp Dd Dh Wd hB R hf s sx => a2 B G H σ ρ fp _ _ Wd hB R hf sx fun r ρ' v G' H' fp' fr n ot t1 t2 q => s.rt _ _ _ _ _ _ _ _ n.rp ot t1 (R.base t2) q⟩
@[simp] def xSet (io : List Nat) (i : Nat) (fe : FEx) : FX := fun Wd D ρ => fe Wd ρ fun r ρ1 => i ∉ io ∧ D.nx (ρ1.set i (some r))
theorem x_set {i : Nat} {pos' : Pos} (hN : X.N.Nodup) (h : PDex X W io e fe) (hi : X.N[i]? = some x := by rfl) (hx : Loc X.env.scope x := by first | exact Or.inl rfl | exact Or.inr rfl)
    (hs : swapsWith e (some (.Name x pos')) pos.line X.env = pure false := by rfl) (hf : X.fn x = true ∨ X.env.scope.names.lookup x = some .local := by first | exact .inl rfl | exact .inr rfl) : PDx X W io (.Assign [.Name x pos'] e pos) (xSet io i fe) := by
  obtain ⟨_, a1, a2⟩ := h
  refine ⟨_, ps_set hN hi hx a1 hs hf, fun B G H σ ρ fp Dd Dh Wd hB R hf s sx => ?_⟩
  refine a2 B G H σ ρ fp _ _ Wd hB R hf sx fun r ρ' v G' H' fp' fr n ot t1 t2 ⟨hi, q⟩ => ?_
  exact s.nx _ _ _ _ _ (n.rp.put (by rw [hB]; exact hi) ot t1 (R.base t2)) q
/-- what lets nothing out, as a plain statement -/
theorem s_ofx {f : FX} {g : FS} (h : PDx X (fun _ _ _ _ => False) io st f) (e : g = f fun _ _ _ => False) : PDs X io st g := by
  subst e
  obtain ⟨t, h1, h2⟩ := h
  exact ⟨t, h1, fun B G H σ ρ fp Dd Dh hB R hf s => h2 B G H σ ρ fp Dd Dh _ hB R hf s ⟨fun _ _ _ _ _ _ _ _ _ _ _ _ _ _ _ z => z⟩⟩
end
/-! #### methods, instances that are called: all data, they raise -/
theorem spE_data {K : PySem.W.Frag} {B : Bs} {σ : L2.St} {G H : Hp} {ρ : Rho} {fp : Nat → List Addr} {W : WX} {Wd : WD} (R : Rp K B G H σ ρ fp) {vs : List V} {ds : List DD} (rq : RqA K G vs ds) {Fx : XCtr} {Q : VK} (hF : Fx (ds.map .dat) fun C d _ => Wd C d ρ) (sx : SimX K B Wd W) : spE K Fx vs H Q (WE W σ) := by
  refine ⟨G, ds.map .dat, fun _ => [], _, ⟨by simp [rq.length], R.co.sub, fun i t e => ?_, fun _ _ => rfl, fun _ _ _ m => nomatch m⟩, hF, fun C dx v d as' G' H' fp' fr c st inn e ot d1 d2 q => ?_⟩
  · rw [List.getElem?_map, List.getElem?_map] at e
    cases h : ds[i]? with
    | none => rw [h] at e; cases e
    | some d =>
      rw [h] at e
      have : SV.dat d = t := by simpa using e
      subst this
      obtain ⟨u, hu, ru⟩ := rq.get h
      exact ⟨u, by rw [List.getElem?_map, hu]; rfl, .dat ru⟩
  · have noIn : ∀ a, ¬ In (fun _ : Nat => ([] : List Addr)) a := fun a ⟨_, m⟩ => by cases m
    have st2 : Stp (In fp) G H G' H' := ⟨st.ex, fun a o _ e => st.keep a o (noIn a) e, fun a o _ e g => st.hid a o (noIn a) e g⟩
    have new : ∀ a ∈ fr, H a = none := fun a m => (d2 a m).elim id fun z => (noIn a z).elim
    have nin : ∀ a ∈ fr, ¬ In fp a := fun a m z => by
      obtain ⟨⟨o, e⟩, _⟩ := R.co.here z
      rw [new a m] at e; cases e
    refine sx.ex G' H' σ ρ fp C dx v d fr ⟨R.co.grow st.ex (fun a _ o e => st.keep a o (noIn a) e) (fun a m => ?_) c.sub, R.stp.trans st2 R.own, R.own, R.io, R.lo.trans st.ex⟩ e ot nin (R.base fun a m => .inl (new a m)) q
    obtain ⟨⟨o, e⟩, g⟩ := R.co.here m
    exact st.hid a o (noIn a) e g
section
variable {X : Cx} {W : WX} {k n : Nat} {C g f : Addr} {fd : FuncData} {ps ks : List Str} {sp : Sp} {E : L2.St → XK} {x m : Str} {e o : Expr} {es : List Expr} {kws : List Keyword} {pos p pn apos : Pos} {ta tf : TE} {t tk : TA} {CX : CXT} {io : List Nat} {Fx : XCtr}
def tInstS (C : Addr) (n : Nat) (sp : Sp) (E : L2.St → XK) (tf : TE) (t : TA) : TE := fun σ H Q => tf σ H fun y H1 => ∃ a, y = .ref a ∧ t σ H1 fun vs H2 => vs.length = n ∧ (∃ dx fs, H2 a = some (.ins C dx fs)) ∧ sp (.ref a :: vs) H2 Q (E σ)
def tMethS (C : Addr) (m : Str) (sp : Sp) (E : L2.St → XK) (ta : TE) (t : TA) : TE := fun σ H Q => ta σ H fun y H1 => ∃ a dx fs, y = .ref a ∧ H1 a = some (.ins C dx fs) ∧ fs.lookup m = none ∧ t σ H1 fun vs H2 => sp (.ref a :: vs) H2 Q (E σ)
theorem run_instS {pins : List (Addr × Obj)} {σ : L2.St} {H : Hp} {s : Shared} {Q : VK} {a dx : Addr} {fs : List (Str × V)} {us : List Value} {vs : List V} (c : StX.CallO X.K C g) (F : FnG X.prog X.w X.K X.mg X.base CX k g fd ps sp) (hr : RoomG k X.A) (hb : BndI X.K fd ps []) (hx : PassesAt CX X σ (E σ))
    (I : Inv X pins σ H s) (ha : H a = some (.ins C dx fs)) (r : Vals vs us) (q : sp (.ref a :: vs) H Q (E σ)) : wpAny (model X.prog X.w) X.A (call (.ref a) us []) (EP X pins σ Q) X.xe s := by
  obtain ⟨mA, O, _⟩ := ins_get I.hok ha
  obtain ⟨od, J, _⟩ := O.look
  have rs : Vals (V.ref a :: vs) (Value.ref a :: us) := .cons rfl r
  have ln := F.len _ _ _ _ q
  rw [rs.length] at ln
  have bd := hb s (.ref a :: us) [] I.kIn rfl (by simpa using ln)
  rw [List.append_nil] at bd
  refine wpAny_call (PySem.W.kco_code I.kIn J rfl c.at_ c.fn c.fi (codeAny_mono (F.run X.A X.stack s H ⟨.ref a :: us, []⟩ (.ref a :: us) (.ref a :: vs) Q (E σ) hr I.env0 bd rs q) fun r s' hq => ?_))
  cases r with
  | error er => exact hx pins H s er s' I hq
  | ok fl =>
    cases fl with
    | ret u => exact I.after hq
    | next => exact hq.elim
    | brk => exact hq.elim
    | cont => exact hq.elim
theorem pe_instPS (hf : PE X (.Name x pn) tf) (c : StX.CallO X.K C g) (F : FnG X.prog X.w X.K X.mg X.base CX k g fd ps sp) (hr : RoomG k X.A) (hb : BndI X.K fd ps []) (hx : ∀ σ, PassesAt CX X σ (E σ)) (ha : PA X (e :: es) t)
    (he : starEach (e :: es) X.env = (false, eval e X.env) :: starEach es X.env) (hpl : (backTo pos (starEach es X.env)).any (·.1) = false) : PE X (.Call (.Name x pn) (e :: es) [] pos) (tInstS C n sp E tf t) := by
  refine ⟨fun pins s σ H Q I h => wpAny_Call_Name_kw (thn (hf.run pins s σ H _ I h) fun u s1 ⟨y, H1, I1, ry, a, ey, q⟩ => ?_)⟩
  subst ey
  cases ry
  have hA := ha.run pos pins s1 σ H1 _ I1 q
  rw [he] at hA ⊢
  refine call_inst (by show ((false || (backTo pos (starEach es X.env)).any (·.1)) || false) = false; rw [hpl] <;> rfl) (PySem.Calls.evalArgs_plain (thn hA fun us s2 ⟨vs, H2, I2, r, hl, ⟨dx, fs, hi⟩, q2⟩ => ?_))
  exact ⟨ins_at I2 hi, run_instS c F hr hb (hx σ) I2 hi r q2⟩
theorem pe_methGS {pl : Sem Bool} (he : PE X o ta) (c : Cls X.K C) (hm : Meth X.K C m f) (F : FnG X.prog X.w X.K X.mg X.base CX k f fd ps sp) (hr : RoomG k X.A) (hb : Binds X.K fd ps []) (hx : ∀ σ, PassesAt CX X σ (E σ)) (ha : PA X (e :: es) t)
    (hst : starEach (e :: es) X.env = (false, eval e X.env) :: starEach es X.env) (hpl : (backTo pos (starEach es X.env)).any (·.1) = false)
    (ht : eval (.Call (.Attribute o m apos) (e :: es) [] pos) X.env = (do
      let ov ← eval o X.env
      standAt apos.atName
      let (f, first) ← holding [ov] (getMethod ov m pl)
      callWith pos f first (backTo pos (starEach (e :: es) X.env)) (backToKw pos (keywordEach [] X.env)))) : PE X (.Call (.Attribute o m apos) (e :: es) [] pos) (tMethS C m sp E ta t) := by
  refine ⟨fun pins s σ H Q I h => PySem.W.methodCall_KW (pl := pl) (thn (he.run pins s σ H _ I h) fun u s1 ⟨y, H1, I1, ry, a, dx, fs, ey, hi, hl, q⟩ => ?_) ht⟩
  subst ey
  cases ry
  refine getmeth_ok I1 hi c hm hl (PySem.W.callWith_K (first := [.ref a]) (h₀ := X.base) I.ok.mod.kin hm.kp (thn (ha.run pos pins s1 σ H1 _ I1 q) fun us s2 ⟨vs, H2, I2, r, q2⟩ => ⟨I2.kIn, ?_⟩) hst hpl)
  exact run_fnSG (us := .ref a :: us) (vs := .ref a :: vs) F hr hb (hx σ) I2 (.cons rfl r) q2
theorem pe_methGS0 {pl : Sem Bool} (he : PE X o ta) (c : Cls X.K C) (hm : Meth X.K C m f) (F : FnG X.prog X.w X.K X.mg X.base CX k f fd ps sp) (hr : RoomG k X.A) (hb : Binds X.K fd ps []) (hx : ∀ σ, PassesAt CX X σ (E σ))
    (ht : eval (.Call (.Attribute o m apos) [] [] pos) X.env = (do
      let ov ← eval o X.env
      standAt apos.atName
      let (f, first) ← holding [ov] (getMethod ov m pl)
      callWith pos f first (backTo pos (starEach [] X.env)) (backToKw pos (keywordEach [] X.env)))) : PE X (.Call (.Attribute o m apos) [] [] pos) (tMethS C m sp E ta tNil) := by
  refine ⟨fun pins s σ H Q I h => PySem.W.methodCall_KW (pl := pl) (thn (he.run pins s σ H _ I h) fun u s1 ⟨y, H1, I1, ry, a, dx, fs, ey, hi, hl, q⟩ => ?_) ht⟩
  subst ey
  cases ry
  exact getmeth_ok I1 hi c hm hl (PySem.W.callWith_K0 (first := [.ref a]) I1.kIn hm.kp (run_fnSG (us := [.ref a]) (vs := [.ref a]) F hr hb (hx σ) I1 (.cons rfl .nil) q))
/-- the method raises -/
def HmeX (P : Program) (w : World) (K : PySem.W.Frag) (mg : Str → Option Value) (base : Heap) (C : Addr) (m : Str) (ps : List Str) (k : Nat) (Fx : XCtr) : Prop :=
  ∃ f fd, Cls K C ∧ Meth K C m f ∧ Binds K fd ps [] ∧ FnG P w K mg base (L2.CX P w) k f fd ps (spE K Fx)
/-- .. an instance that is called -/
def HinX (P : Program) (w : World) (K : PySem.W.Frag) (mg : Str → Option Value) (base : Heap) (C : Addr) (ps : List Str) (k : Nat) (Fx : XCtr) : Prop :=
  ∃ f fd, StX.CallO K C f ∧ BndI K fd ps [] ∧ FnG P w K mg base (L2.CX P w) k f fd ps (spE K Fx)
@[simp] def fMethX (C : Addr) (m : Str) (Fx : XCtr) (fo : FO) (fd : FDs) : FEx := fun Wd ρ Q => fo ρ fun z ρ1 => ∃ ds, resT ρ1 z = some (.dat (.obj C ds)) ∧ ds.lookup m = none ∧ fd ρ1 fun es ρ2 => Fx (.dat (.obj C ds) :: es.map .dat) fun Cx d _ => Wd Cx d ρ2
theorem de_methX {K : PySem.W.Frag} {fo : FO} {fd : FDs} {to : TE} {t : TA} (o2 : DO K io to fo) (a2 : DAd K io t fd) : DEx K io W (tMethS C m (spE K Fx) (WE W) to t) (fMethX C m Fx fo fd) := by
  intro B G H σ ρ fp Qd Q Wd hB R hf sx kk
  refine o2 B G H σ ρ fp _ _ hB R hf fun z ρ1 v G1 H1 fp1 n1 o1 ⟨ds, e1, hl, hf⟩ => ?_
  obtain ⟨f, ot, _⟩ := o1.tree n1.rp e1
  have rq := ot.dat_inv.1
  obtain ⟨a, dx, fs, ev, ga, rf⟩ := rq.obj_inv
  subst ev
  refine ⟨a, dx, fs, rfl, n1.rp.co.sub _ _ ga, rf.none hl, ?_⟩
  refine a2 B G1 H1 σ ρ1 fp1 _ _ hB n1.rp hf fun es ρ2 vs G2 H2 fp2 n2 rs q => ?_
  exact spE_data (ds := .obj C ds :: es) n2.rp (.cons (rq.mono n2.st.ex) rs) q sx
theorem ex_meth0 {fo : FO} {pl : Sem Bool} (tk : Takes X W) (h : HmeX X.prog X.w X.K X.mg X.base C m ps k Fx) (hr : RoomG k X.A) (ho : PDo X io o fo)
    (ht : eval (.Call (.Attribute o m apos) [] [] pos) X.env = (do
      let ov ← eval o X.env
      standAt apos.atName
      let (f, first) ← holding [ov] (getMethod ov m pl)
      callWith pos f first (backTo pos (starEach [] X.env)) (backToKw pos (keywordEach [] X.env))) := by rfl) : PDex X W io (.Call (.Attribute o m apos) [] [] pos) (fMethX C m Fx fo kNil) := by
  obtain ⟨g, fd, c, hm, hb, hF⟩ := h
  obtain ⟨to, o1, o2⟩ := ho
  exact ⟨_, pe_methGS0 (E := WE W) o1 c hm hF hr hb (fun σ => passAt tk σ) ht, de_methX o2 da_nil⟩
theorem ex_meth {fo : FO} {fd' : FDs} {pl : Sem Bool} (tk : Takes X W) (h : HmeX X.prog X.w X.K X.mg X.base C m ps k Fx) (hr : RoomG k X.A) (ho : PDo X io o fo) (ha : PDpa X io (e :: es) fd')
    (hst : starEach (e :: es) X.env = (false, eval e X.env) :: starEach es X.env := by rfl) (hpl : (backTo pos (starEach es X.env)).any (·.1) = false := by rfl)
    (ht : eval (.Call (.Attribute o m apos) (e :: es) [] pos) X.env = (do
      let ov ← eval o X.env
      standAt apos.atName
      let (f, first) ← holding [ov] (getMethod ov m pl)
      callWith pos f first (backTo pos (starEach (e :: es) X.env)) (backToKw pos (keywordEach [] X.env))) := by rfl) : PDex X W io (.Call (.Attribute o m apos) (e :: es) [] pos) (fMethX C m Fx fo fd') := by
  obtain ⟨g, fd, c, hm, hb, hF⟩ := h
  obtain ⟨to, o1, o2⟩ := ho
  obtain ⟨t, a1, a2⟩ := ha
  exact ⟨_, pe_methGS (E := WE W) o1 c hm hF hr hb (fun σ => passAt tk σ) a1 hst hpl ht, de_methX o2 a2⟩
/-- x(e, ..) raises, all data -/
@[simp] def fInstX (C : Addr) (Fx : XCtr) (i : Nat) (fd : FDs) : FEx := fun Wd ρ Q => ∃ ds, ρ[i]? = some (some (.dat (.obj C ds))) ∧ fd ρ fun es ρ2 => Fx (.dat (.obj C ds) :: es.map .dat) fun Cx d _ => Wd Cx d ρ2
theorem de_instX {K : PySem.W.Frag} {fd : FDs} {t : TA} {i : Nat} (hn : ∀ ρ Q, fd ρ Q → fd ρ fun es ρ1 => es.length = n ∧ Q es ρ1) (a2 : DAd K io t fd) : DEx K io W (tInstS C n (spE K Fx) (WE W) (tVar i) t) (fInstX C Fx i fd) := by
  intro B G H σ ρ fp Qd Q Wd hB R hf sx kk
  obtain ⟨ds, e1, hf⟩ := hf
  obtain ⟨v, e2, ot⟩ := R.co.slot i _ e1
  have rq := ot.dat_inv.1
  obtain ⟨a, dx, fs, ev, ga, rf⟩ := rq.obj_inv
  subst ev
  refine ⟨.ref a, e2, a, rfl, ?_⟩
  refine a2 B G H σ ρ fp _ _ hB R (hn _ _ hf) fun es ρ2 vs G2 H2 fp2 n2 rs ⟨hl, q⟩ => ?_
  refine ⟨by rw [rs.length]; exact hl, ⟨dx, fs, n2.rp.co.sub _ _ (n2.st.ex _ _ ga)⟩, ?_⟩
  exact spE_data (ds := .obj C ds :: es) n2.rp (.cons (rq.mono n2.st.ex) rs) q sx
end
end DL

namespace DL
open PySem PySem.Spec PyProof.Rows L2
/-! ### try: .. except X as n: .. except Y as m: .. -/
def wManyA (K : PySem.W.Frag) (Wout : WX) (D : Ends) : List (Value × Nat × (Addr → Value → Option Addr → TS)) → WX
  | [] => Wout
  | (c, i, ts) :: r => fun cls d σ H => ∃ b, PySem.W.exmOne K cls c = some b ∧ (b = true → ∀ a, H a = none → ts a cls d { nx := fun σ' H' => D.nx (σ'.set i none) H', rt := D.rt, bk := fun σ' H' => D.bk (σ'.set i none) H', ct := fun σ' H' => D.ct (σ'.set i none) H' } (σ.set i (some (.ref a))) H) ∧
    (b = false → wManyA K Wout D r cls d σ H)
inductive HdsAs (X : Cx) : List ExceptHandler → List (Value × Nat × (Addr → Value → Option Addr → TS)) → Prop
  | nil : HdsAs X [] []
  | cons {x n : Str} {c : Value} {i : Nat} {ts : Addr → Value → Option Addr → TS} {b₀ : Stmt} {suite : List Stmt} {np pos' : Pos} {hds : List ExceptHandler} {l : List (Value × Nat × (Addr → Value → Option Addr → TS))} (hi : X.N[i]? = some n) (hln : X.env.kindOf n = some .local) (hc : Names X x c)
      (hsu : ∀ (a : Addr) (oe : Obj) (cls : Value) (d : Option Addr) (pn : List (Addr × Obj)), Zc cls d oe → (∃ vs, oe.data = .fields vs) → PSs (X.suite a ((a, oe) :: pn)) (b₀ :: suite) (ts a cls d)) (r : HdsAs X hds l) :
      HdsAs X (.ExceptHandler (some (.Name x np)) (some n) (b₀ :: suite) pos' :: hds) ((c, i, ts) :: l)
section
variable {X : Cx} {body : List Stmt} {h₀ : ExceptHandler} {hds : List ExceptHandler} {l : List (Value × Nat × (Addr → Value → Option Addr → TS))} {pos : Pos} {tb : WX → TS} {Wout : WX}
theorem ps_try_manyA (hs : X.stack = X.env :: X.outer) (hf : X.env.frame = some X.env.locals) (hN : X.N.Nodup) (tk : Takes X Wout)
    (hb : ∀ (W : WX) (pn : List (Addr × Obj)) (xe : Value → Shared → Prop), Takes (X.tr pn xe) W → PassesOwn (model X.prog X.w) X.A X.env xe → PSs (X.tr pn xe) body (tb W))
    (hh : HdsAs X (h₀ :: hds) l) : PS X (.Try body (h₀ :: hds) [] [] pos) (fun D σ H => tb (wManyA X.K Wout D l) D σ H) := by
  refine ⟨fun pins s σ H D I h => ?_⟩
  have ok := I.ok
  have hfr : X.A.frames = some (X.env :: X.outer) := by rw [ok.frames, hs]
  refine wpAny_Try_except ?_
  refine wpAny_mono ((hb (wManyA X.K Wout D l) (X.pn ++ pins) (fun e s₁ => wpAny (model X.prog X.w) X.A (noteFrame e X.env) (fun _ s₂ => wpAny (model X.prog X.w) X.A (setFlight e none) (fun _ s₃ =>
    wpAny (model X.prog X.w) X.A (handleBy e X.env (h₀ :: hds)) (SP X pins D) X.xe s₃) X.xe s₂) X.xe s₁) (fun u s' xx => ?_) PassesOwn.looking).run [] s σ H D (I.toTry _) h) (fun f s1 hsp => ?_) (fun e s1 he => he)
  · obtain ⟨a, B, sI, pins', σ', H', cls, d, rfl, J', nb, up, sky, na, os, ag, w⟩ := xx
    have J : Inv X pins σ' H' sI := J'.ofTry ok
    have sky' : Sky B (X.env :: X.outer) a (Zc cls d) X.env.locals s'.heap := by rw [← hs]; exact sky
    show wpAny (model X.prog X.w) X.A (noteFrame (.ref a) X.env) _ _ _
    refine Sky.land Zc.steady hfr hf sky' fun h3 fl3 up3 => ?_
    have J3 : Inv X pins σ' H' { s' with heap := h3 } := J.landed nb fl3.1 (up.trans up3) os ag
    obtain ⟨oe3, vs3, he3, hz3, hd3⟩ := fl3.there
    have notFr : ∀ {h : Heap} {o : Obj} {vs : Array Value}, h.FunFrames B (X.env :: X.outer) → h.get? a = some o → o.data = .fields vs → a ∉ frs (X.env :: X.outer) := fun {h o vs} ff e dd hm => by
      obtain ⟨_, o', e', hnf⟩ := ff.mem hm
      rw [e] at e'; cases e'
      exact hnf _ dd
    have nfr := notFr fl3.2.2.1 he3 hd3
    have nL : a ≠ X.env.locals := fun z => nfr (List.mem_filterMap.mpr ⟨X.env, List.mem_cons_self, by rw [hf, z]⟩)
    have nF : a ∉ X.fs := fun hm => by
      obtain ⟨e, he, q⟩ := List.mem_filterMap.mp hm
      exact nfr (List.mem_filterMap.mpr ⟨e, List.mem_cons_of_mem _ he, q⟩)
    have S3 := J3.suite he3 hd3 na nL nF
    have go : ∀ {hds' : List ExceptHandler} {l' : List (Value × Nat × (Addr → Value → Option Addr → TS))}, HdsAs X hds' l' → wManyA X.K Wout D l' cls d σ' H' →
        wpAny (model X.prog X.w) X.A (handleBy (.ref a) X.env hds') (SP X pins D) X.xe { s' with heap := h3 } := by
      intro hds' l' hk
      induction hk with
      | nil =>
        intro w
        refine wpAny_handleBy_nil ?_
        obtain ⟨k1, k2, k3, oe, vs, T, oT, ts', he, hz, hd, h1, hr⟩ := id fl3
        unfold PySem.passOn
        refine wpAny_bind (wpAny_field he hd h1 ?_)
        rw [if_neg (show ¬ ((Value.ref T == Value.none) = true) from by simp)]
        have fin : wpAny (model X.prog X.w) X.A (setFlight (.ref a) X.env.frame) (fun _ s4 => wpAny (model X.prog X.w) X.A (throw (.ref a) : Sem Flow) (SP X pins D) X.xe s4) X.xe { s' with heap := h3 } := by
          rw [hf]
          refine HandSPX.setFlight_upZ fl3 fun h4 hh4 up4 => wpAny_throw (tk _ _ ?_)
          exact ⟨a, B, sI, pins, σ', H', cls, d, rfl, J, nb, (up.trans up3).trans up4, .inr (.inr (by rw [hs]; exact hh4)), na, os, ag, w⟩
        first
          | exact wpAny_bind (wpAny_pure (wpAny_bind fin))
          | exact wpAny_bind fin
      | @cons x n c i ts b₀ suite np pos' hds2 l2 hi hln hc hsu r ih =>
        intro w
        obtain ⟨b, hb1, hyes, hno⟩ := w
        have hloc : L2.Loc X.env.scope n := .inl hln
        refine wpAny_handleBy_cons (codeAny_handlers_test ?_) (by intro q; cases q)
        have LT : PySem.W.Looks (model X.prog X.w) h3 (typeOf (.ref a)) cls := fun A Q E s k q => wpAny_typeOf_ref (k _ _ he3) (by rw [hz3.1]; exact q)
        have LM := PySem.W.exm_one (M := model X.prog X.w) (J3.kIn) LT hb1
        have test : ∀ {Q : Value → Shared → Prop} {E : Value → Shared → Prop}, Q c { s' with heap := h3 } → wpAny (model X.prog X.w) (X.A.mark (some (.ref a))) (eval (.Name x np) X.env) Q E { s' with heap := h3 } := fun {Q E} q => by
          obtain ⟨hg, hdbg, hm | ⟨hm, hv, hnn⟩⟩ := hc
          · exact ld_glob (X := X.suite a ((a, oe3) :: (X.pn ++ pins))) S3 hg hm q hdbg
          · exact ld_blt (X := X.suite a ((a, oe3) :: (X.pn ++ pins))) S3 hg hm hv q hnn hdbg
        refine test (LM.here ?_)
        cases b with
        | true =>
          refine codeAny_handlers_suite_as ?_
          refine HandSPX.lands_againZ fl3 fun h4 fl4 up4 => ?_
          have J4 : Inv X pins σ' H' { s' with heap := h4 } := J.landed nb fl4.1 ((up.trans up3).trans up4) os ag
          obtain ⟨oe4, vs4, he4, hz4, hd4⟩ := fl4.there
          have S4 := J4.suite he4 hd4 na nL nF
          refine store_ok (X := X.suite a ((a, oe4) :: (X.pn ++ pins))) (v := .ref a) S4 hN hi hloc rfl (fun s5 S5 => ?_) (.inr hln)
          refine wpAny_mono ((hsu a oe4 cls d (X.pn ++ pins) hz4 ⟨_, hd4⟩).run [] s5 _ H' _ S5 (hyes rfl a na)) (fun f s6 hsp => ?_) (fun _ _ z => False.elim z)
          have end_ : ∀ {σ6 : L2.St} {H6 : Hp} {Q : Shared → Prop}, Inv (X.suite a ((a, oe4) :: (X.pn ++ pins))) [] σ6 H6 s6 → (∀ s7, Inv X pins (σ6.set i none) H6 s7 → Q s7) →
              wpAny (model X.prog X.w) X.A (do bindName X.env n .none; unbindBehindTheSuite X.env n pos') (fun _ s7 => Q s7) X.xe s6 := fun {σ6 H6 Q} S6 hq => gone_ok (S6.unsuite ok) hN hi hln hq
          cases f with
          | next =>
            obtain ⟨σ6, H6, S6, q6⟩ := hsp
            exact end_ S6 fun s7 J7 => ⟨_, _, J7, q6⟩
          | brk =>
            obtain ⟨σ6, H6, S6, q6⟩ := hsp
            exact end_ S6 fun s7 J7 => ⟨_, _, J7, q6⟩
          | cont =>
            obtain ⟨σ6, H6, S6, q6⟩ := hsp
            exact end_ S6 fun s7 J7 => ⟨_, _, J7, q6⟩
          | ret u =>
            obtain ⟨v6, σ6, H6, S6, r6, q6⟩ := hsp
            exact end_ S6 fun s7 J7 => ⟨_, _, _, J7, r6, q6⟩
        | false =>
          show wpAny _ X.A (handleBy (.ref a) X.env hds2) _ _ _
          exact ih (hno rfl)
    exact go hh w
  · cases f with
    | next =>
      obtain ⟨σ', H', J', q⟩ := hsp
      exact wpAny_execs_nil ⟨σ', H', J'.ofTry ok, q⟩
    | brk =>
      obtain ⟨σ', H', J', q⟩ := hsp
      exact ⟨σ', H', J'.ofTry ok, q⟩
    | cont =>
      obtain ⟨σ', H', J', q⟩ := hsp
      exact ⟨σ', H', J'.ofTry ok, q⟩
    | ret u =>
      obtain ⟨v, σ', H', J', r, q⟩ := hsp
      exact ⟨v, σ', H', J'.ofTry ok, r, q⟩
end
/-! #### by data -/
/-- the ends behind a suite: slot i holds nothing -/
def offD (i : Nat) (D : DEnds) : DEnds := { nx := fun ρ => D.nx (ρ.set i none), rt := D.rt, bk := fun ρ => D.bk (ρ.set i none), ct := fun ρ => D.ct (ρ.set i none) }
@[simp] theorem offD_nx (i : Nat) (D : DEnds) (ρ : Rho) : (offD i D).nx ρ = D.nx (ρ.set i none) := rfl
@[simp] theorem offD_rt (i : Nat) (D : DEnds) : (offD i D).rt = D.rt := rfl
abbrev Clz := Value × Nat × (Addr → Addr → Addr → FS)
def hdsX (K : PySem.W.Frag) (D : DEnds) (Wd : WD) : List Clz → WD
  | [] => Wd
  | (c, i, g) :: r => fun C d ρ => (PySem.W.exmOne K (.ref C) c = some true ∧ ∀ a dx, g a dx C (offD i D) (ρ.set i (some (.ex a dx C d)))) ∨ (PySem.W.exmOne K (.ref C) c = some false ∧ hdsX K D Wd r C d ρ)
@[simp] theorem hdsX_nil (K : PySem.W.Frag) (D : DEnds) (Wd : WD) (C : Addr) (d : SV) (ρ : Rho) : hdsX K D Wd [] C d ρ = Wd C d ρ := rfl
theorem hdsX_yes {K : PySem.W.Frag} {D : DEnds} {Wd : WD} {c : Value} {i : Nat} {g : Addr → Addr → Addr → FS} {r : List Clz} {C : Addr} {d : SV} {ρ : Rho} (e : PySem.W.exmOne K (.ref C) c = some true) (h : ∀ a dx, g a dx C (offD i D) (ρ.set i (some (.ex a dx C d)))) : hdsX K D Wd ((c, i, g) :: r) C d ρ := .inl ⟨e, h⟩
theorem hdsX_no {K : PySem.W.Frag} {D : DEnds} {Wd : WD} {c : Value} {i : Nat} {g : Addr → Addr → Addr → FS} {r : List Clz} {C : Addr} {d : SV} {ρ : Rho} (e : PySem.W.exmOne K (.ref C) c = some false) (h : hdsX K D Wd r C d ρ) : hdsX K D Wd ((c, i, g) :: r) C d ρ := .inr ⟨e, h⟩
def xTryM (K : PySem.W.Frag) (io : List Nat) (cl : List Clz) (f : FX) : FX := fun Wd D ρ => (cl.all fun q => decide (q.2.1 ∉ io)) = true ∧ f (hdsX K D Wd cl) D ρ
/-- the clauses, their suites -/
inductive ClsOk (X : Cx) (io : List Nat) : List ExceptHandler → List Clz → Prop
  | nil : ClsOk X io [] []
  | cons {x n : Str} {c : Value} {i : Nat} {g : Addr → Addr → Addr → FS} {b₀ : Stmt} {suite : List Stmt} {np pos' : Pos} {hds : List ExceptHandler} {l : List Clz} (hi : X.N[i]? = some n) (hln : X.env.kindOf n = some .local) (hc : Names X x c)
      (hsu : ∀ (a : Addr) (oe : Obj) (C dx : Addr) (pn : List (Addr × Obj)), Zc (.ref C) (some dx) oe → (∃ vs, oe.data = .fields vs) → PDss (X.suite a ((a, oe) :: pn)) io (b₀ :: suite) (g a dx C)) (r : ClsOk X io hds l) :
      ClsOk X io (.ExceptHandler (some (.Name x np)) (some n) (b₀ :: suite) pos' :: hds) ((c, i, g) :: l)
theorem ClsOk.as {X : Cx} {io : List Nat} : ∀ {hds : List ExceptHandler} {l : List Clz}, ClsOk X io hds l → HdsAs X hds (l.map fun q => (q.1, q.2.1, tSuite X.K io q.2.2))
  | _, _, .nil => .nil
  | _, _, .cons (g := g) hi hln hc hsu r => .cons hi hln hc (fun a oe cls d pn z v => by
    dsimp only
    unfold tSuite
    split
    · exact (hsu a oe _ _ pn z v).can
    · exact ⟨fun _ _ _ _ _ _ h => h.elim⟩) r.as
section
variable {X : Cx} {W : WX} {io : List Nat} {body : List Stmt} {h₀ : ExceptHandler} {hds : List ExceptHandler} {f : FX} {cl : List Clz} {pos : Pos}
theorem hds_go {K : PySem.W.Frag} {B : Bs} {Wd : WD} {Dd : DEnds} {Dh : Ends} (hB : B.io = io) (s : Sim K B Dd Dh) (sx : SimX K B Wd W) : ∀ (cl : List Clz), (cl.all fun q => decide (q.2.1 ∉ io)) = true →
    SimX K B (hdsX K Dd Wd cl) (wManyA K W Dh (cl.map fun q => (q.1, q.2.1, tSuite K io q.2.2)))
  | [], _ => sx
  | (c, i, g) :: r, hio => by
    rw [List.all_cons, Bool.and_eq_true] at hio
    have hi' : i ∉ B.io := by rw [hB]; exact of_decide_eq_true hio.1
    refine ⟨fun G' H' σ' ρ' fp' C dx v d fr R' e rq d1 d2 q => ?_⟩
    rcases q with ⟨y, q⟩ | ⟨y, q⟩
    · refine ⟨true, y, fun _ a _ => ?_, fun z => nomatch z⟩
      have ot : OT K G' H' (.ref a) (.ex a dx C d) fr := .ex e rq
      have end1 : ∀ {D1 : Rho → Prop} {D2 : L2.St → Hp → Prop}, (∀ G H σ ρ fp, Rp K B G H σ ρ fp → D1 ρ → D2 σ H) → ∀ G H σ ρ fp, Rp K B G H σ ρ fp → D1 (ρ.set i none) → D2 (σ.set i none) H := fun h G H σ ρ fp R z => by
        have R2 := (R.drop i hi').sigN hi' fun t m => by
          have := set_none_ne m
          exact this.1 rfl
        exact h _ _ _ _ _ R2 z
      exact ⟨B, G', _, _, _, hB, R'.put hi' ot d1 d2, q a dx, ⟨end1 s.nx, s.rt, end1 s.bk, end1 s.ct⟩⟩
    · refine ⟨false, y, (fun z => nomatch z), fun _ => ?_⟩
      exact (hds_go hB s sx r hio.2).ex _ _ _ _ _ C dx v d fr R' e rq d1 d2 q
theorem x_tryM {K : PySem.W.Frag} (hK : X.K = K) (hs : X.stack = X.env :: X.outer) (hf : X.env.frame = some X.env.locals) (hN : X.N.Nodup) (tk : Takes X W)
    (hb : ∀ (W : WX) (pn : List (Addr × Obj)) (xe : Value → Shared → Prop), Takes (X.tr pn xe) W → PassesOwn (model X.prog X.w) X.A X.env xe → PDsx (X.tr pn xe) W io body f)
    (hh : ClsOk X io (h₀ :: hds) cl) : PDx X W io (.Try body (h₀ :: hds) [] [] pos) (xTryM K io cl f) := by
  subst hK
  refine ⟨_, ps_try_manyA (tb := canX X.K io f) (Wout := W) hs hf hN tk (fun W' pn xe tk' po => (hb W' pn xe tk' po).can) hh.as, ?_⟩
  intro B G H σ ρ fp Dd Dh Wd hB R ⟨hio, hfb⟩ s sx
  exact ⟨B, G, ρ, fp, Dd, _, hB, R, hfb, s, hds_go hB s sx cl hio⟩
end
/-! #### isinstance(e, C) in a suite -/
section
variable {X : Cx} {a dx C : Addr} {oe : Obj} {pn : List (Addr × Obj)} {io : List Nat} {e t : Expr} {pos p : Pos} {fo : FO} {cv : Value} {b : Bool}
@[simp] def fIsX (a dx C : Addr) (b : Bool) (fo : FO) : FV := fun ρ Q => fo ρ fun o ρ1 => (∃ d, resT ρ1 o = some (.ex a dx C d)) ∧ Q (.bl b) ρ1
theorem v_isX {c : V} (T : ExcC X.K C) (hz : Zc (.ref C) (some dx) oe) (hv : ∃ vs, oe.data = .fields vs) (hm : X.mg "isinstance" = none) (ho : PDo (X.suite a ((a, oe) :: pn)) io e fo) (ht : PE (X.suite a ((a, oe) :: pn)) t (tC c)) (hcv : ∀ u, RelV c u → u = cv) (hk : PySem.W.kitOne X.K (.ref C) cv = some b)
    (hg : Gl (X.suite a ((a, oe) :: pn)) "isinstance" := by rfl) (he : starEach [e, t] X.env = (false, eval e X.env) :: starEach [t] X.env := by rfl) (he2 : starEach [t] X.env = (false, eval t X.env) :: starEach [] X.env := by rfl) (hpl : (backTo pos (starEach [t] X.env)).any (·.1) = false := by rfl) :
    PDv (X.suite a ((a, oe) :: pn)) io (.Call (.Name "isinstance" p) [e, t] [] pos) (fIsX a dx C b fo) := by
  obtain ⟨ta, a1, a2⟩ := ho
  refine ⟨_, pe_callB (call_isX T hz hv) hg hm PyProof.Rows.boot_isinstance (pa_cons a1 (pa_cons ht pa_nil he2) he) (by decide) (by decide) he hpl, fun B G H σ ρ fp Qd Q hB R hf k => ?_⟩
  refine a2 B G H σ ρ fp _ _ hB R hf fun o ρ1 v G1 H1 fp1 n1 o1 ⟨⟨d, e1⟩, q⟩ => ?_
  obtain ⟨f, ot, _⟩ := o1.tree n1.rp e1
  obtain ⟨w, ev, g, _⟩ := ot.ex_inv
  subst ev
  exact ⟨c, cv, b, _, rfl, n1.rp.co.sub _ _ g, hcv, hk, k _ _ _ _ _ _ n1 (.bl b) q⟩
end
end DL

namespace DL
open PySem PySem.Spec PyProof.Rows L2
/-! ### in a suite: what is asked of the class stands in the word -/
section
variable {X : Cx} {a dx C : Addr} {oe : Obj} {pn : List (Addr × Obj)} {io : List Nat} {e t : Expr} {pos p : Pos} {fo : FO} {cv : Value}
@[simp] def fXv (K : PySem.W.Frag) (a dx C : Addr) (fo : FO) : FV := fun ρ Q => (XfC K C ∧ PySem.W.findIn K (.ref C) "value" = some none) ∧ fXval a dx C fo ρ Q
theorem dv_never {K : PySem.W.Frag} {fv : FV} (h : ∀ ρ Q, ¬ fv ρ Q) : DV K io (fun _ _ _ => False) fv := fun B G H σ ρ fp Qd Q hB R hf k => h _ _ hf
theorem pe_never {X : Cx} {e : Expr} : PE X e (fun _ _ _ => False) := ⟨fun pins s σ H Q I h => h.elim⟩
theorem v_xv {K : PySem.W.Frag} (hK : X.K = K) (hz : Zc (.ref C) (some dx) oe) (hv : ∃ vs, oe.data = .fields vs) (ho : PDo (X.suite a ((a, oe) :: pn)) io e fo) (hb : attributeBase e "value" X.env (eval e X.env) = eval e X.env := by rfl) : PDv (X.suite a ((a, oe) :: pn)) io (.Attribute e "value" pos) (fXv K a dx C fo) := by
  subst hK
  by_cases h : XfC X.K C ∧ PySem.W.findIn X.K (.ref C) "value" = some none
  · obtain ⟨te, h1, h2⟩ := v_xval (pos := pos) h.1 h.2 hz hv ho hb
    exact ⟨te, h1, fun B G H σ ρ fp Qd Q hB R hf k => h2 B G H σ ρ fp Qd Q hB R hf.2 k⟩
  · exact ⟨_, pe_never, dv_never fun ρ Q z => h z.1⟩
/-- .. as a tree -/
@[simp] def fXm (K : PySem.W.Frag) (a dx C : Addr) (io : List Nat) (i : Nat) : FE := fun ρ Q => (XfC K C ∧ PySem.W.findIn K (.ref C) "value" = some none) ∧ fXmv a dx C io i ρ Q
theorem de_never {K : PySem.W.Frag} {fe : FE} (h : ∀ ρ Q, ¬ fe ρ Q) : DE K io (fun _ _ _ => False) fe := fun B G H σ ρ fp Qd Q hB R hf k => h _ _ hf
theorem e_xm {K : PySem.W.Frag} (hK : X.K = K) (hz : Zc (.ref C) (some dx) oe) (hv : ∃ vs, oe.data = .fields vs) {te : TE} (i : Nat) (ho : PE (X.suite a ((a, oe) :: pn)) e te) (ht : te = tVar i) (hb : attributeBase e "value" X.env (eval e X.env) = eval e X.env := by rfl) : PDe (X.suite a ((a, oe) :: pn)) io (.Attribute e "value" pos) (fXm K a dx C io i) := by
  subst hK
  by_cases h : XfC X.K C ∧ PySem.W.findIn X.K (.ref C) "value" = some none
  · obtain ⟨te, h1, h2⟩ := e_xmv (pos := pos) (io := io) h.1 h.2 hz hv i ho ht hb
    exact ⟨te, h1, fun B G H σ ρ fp Qd Q hB R hf k => h2 B G H σ ρ fp Qd Q hB R hf.2 k⟩
  · exact ⟨_, pe_never, de_never fun ρ Q z => h z.1⟩
@[simp] def fIs (K : PySem.W.Frag) (a dx C : Addr) (cv : Value) (fo : FO) : FV := fun ρ Q => ExcC K C ∧ ∃ b, PySem.W.kitOne K (.ref C) cv = some b ∧ fIsX a dx C b fo ρ Q
theorem v_is {c : V} {K : PySem.W.Frag} (hK : X.K = K) (hz : Zc (.ref C) (some dx) oe) (hv : ∃ vs, oe.data = .fields vs) (hm : X.mg "isinstance" = none) (ho : PDo (X.suite a ((a, oe) :: pn)) io e fo) (ht : PE (X.suite a ((a, oe) :: pn)) t (tC c)) (hcv : ∀ u, RelV c u → u = cv)
    (hg : Gl (X.suite a ((a, oe) :: pn)) "isinstance" := by rfl) (he : starEach [e, t] X.env = (false, eval e X.env) :: starEach [t] X.env := by rfl) (he2 : starEach [t] X.env = (false, eval t X.env) :: starEach [] X.env := by rfl) (hpl : (backTo pos (starEach [t] X.env)).any (·.1) = false := by rfl) :
    PDv (X.suite a ((a, oe) :: pn)) io (.Call (.Name "isinstance" p) [e, t] [] pos) (fIs K a dx C cv fo) := by
  subst hK
  by_cases h : ExcC X.K C
  · cases q : PySem.W.kitOne X.K (.ref C) cv with
    | some b =>
      obtain ⟨te, h1, h2⟩ := v_isX (pos := pos) (p := p) h hz hv hm ho ht hcv q hg he he2 hpl
      refine ⟨te, h1, fun B G H σ ρ fp Qd Q hB R hf k => ?_⟩
      obtain ⟨_, b2, e2, q2⟩ := hf
      rw [q] at e2
      cases e2
      exact h2 B G H σ ρ fp Qd Q hB R q2 k
    | none =>
      refine ⟨_, pe_never, dv_never fun ρ Q z => ?_⟩
      obtain ⟨_, b, e2, _⟩ := z
      rw [q] at e2
      cases e2
  · exact ⟨_, pe_never, dv_never fun ρ Q z => h z.1⟩
/-- a class of the text, a built-in one -/
theorem pe_cls {x : Str} {C2 : Addr} {X : Cx} {pos : Pos} (hm : X.mg x = some (.ref C2)) (hg : Gl X x := by rfl) (hd : (x == ("__debug__" : Str)) = false := by decide) : PE X (.Name x pos) (tC (.ref C2)) := pe_glob hg hm (rfl : RelV (.ref C2) (.ref C2)) hd
theorem pe_VE {X : Cx} {pos : Pos} (hm : X.mg "ValueError" = none) (hg : Gl X "ValueError" := by rfl) : PE X (.Name "ValueError" pos) (tC (.ty "ValueError")) := pe_bltn hg hm PyProof.Rows.Boot.«ValueError» (rfl : RelV (.ty "ValueError") (.type "ValueError")) (by decide) (by decide)
theorem rel_ty {T : String} : ∀ u, RelV (.ty T) u → u = Value.type T := fun _ h => h
theorem rel_ref {C2 : Addr} : ∀ u, RelV (.ref C2) u → u = Value.ref C2 := fun _ h => h
end
section
variable {P : Program} {w : World} {K : PySem.W.Frag} {mg : Str → Option Value} {base : Heap} {k j : Nat} {f : Addr} {fd : FuncData} {ps : List Str} {F1 F2 : XCtr} {C1 C2 : Ctr}
def orX (F1 F2 : XCtr) : XCtr := fun as Q => F1 as Q ∨ F2 as Q
def orF (F1 F2 : Ctr) : Ctr := fun as Q => F1 as Q ∨ F2 as Q
theorem FnG.orX (h1 : FnG P w K mg base (L2.CX P w) k f fd ps (spE K F1)) (h2 : FnG P w K mg base (L2.CX P w) j f fd ps (spE K F2)) : FnG P w K mg base (L2.CX P w) (max k j) f fd ps (spE K (DL.orX F1 F2)) := by
  have cas : ∀ {vs H Q E}, spE K (DL.orX F1 F2) vs H Q E → spE K F1 vs H Q E ∨ spE K F2 vs H Q E := fun ⟨G, as, fp, Qd, c, hF, kk⟩ => hF.elim (fun h => .inl ⟨G, as, fp, Qd, c, h, kk⟩) fun h => .inr ⟨G, as, fp, Qd, c, h, kk⟩
  exact ⟨fun vs H Q E h => (cas h).elim (h1.len vs H Q E) (h2.len vs H Q E), fun A outer s H args us vs Q E hr e0 hb hv hs => (cas hs).elim
    (fun q => (h1.mono (Nat.le_max_left _ _)).run A outer s H args us vs Q E hr e0 hb hv q) fun q => (h2.mono (Nat.le_max_right _ _)).run A outer s H args us vs Q E hr e0 hb hv q⟩
theorem FnG.orF (h1 : FnG P w K mg base CX0 k f fd ps (spD K C1)) (h2 : FnG P w K mg base CX0 j f fd ps (spD K C2)) : FnG P w K mg base CX0 (max k j) f fd ps (spD K (DL.orF C1 C2)) := by
  have cas : ∀ {vs H Q E}, spD K (DL.orF C1 C2) vs H Q E → spD K C1 vs H Q E ∨ spD K C2 vs H Q E := fun ⟨G, as, fp, Qd, c, hF, kk⟩ => hF.elim (fun h => .inl ⟨G, as, fp, Qd, c, h, kk⟩) fun h => .inr ⟨G, as, fp, Qd, c, h, kk⟩
  exact ⟨fun vs H Q E h => (cas h).elim (h1.len vs H Q E) (h2.len vs H Q E), fun A outer s H args us vs Q E hr e0 hb hv hs => (cas hs).elim
    (fun q => (h1.mono (Nat.le_max_left _ _)).run A outer s H args us vs Q E hr e0 hb hv q) fun q => (h2.mono (Nat.le_max_right _ _)).run A outer s H args us vs Q E hr e0 hb hv q⟩
end
section
variable {X : Cx} {W : WX} {k n : Nat} {C g f : Addr} {fd : FuncData} {ps ks : List Str} {x m : Str} {e o : Expr} {es : List Expr} {pos p pn apos : Pos} {io : List Nat} {Fx : XCtr}
theorem ex_inst1 {fv : FV} {i : Nat} {te : TE} (tk : Takes X W) (h : HinX X.prog X.w X.K X.mg X.base C ps k Fx) (hr : RoomG k X.A) (hf : PE X (.Name x pn) te) (hte : te = tVar i) (ha : PDv X io e fv)
    (he : starEach [e] X.env = (false, eval e X.env) :: starEach [] X.env := by rfl) (hpl : (backTo pos (starEach [] X.env)).any (·.1) = false := by rfl) : PDex X W io (.Call (.Name x pn) [e] [] pos) (fInstX C Fx i (kCons fv kNil)) := by
  subst hte
  obtain ⟨g, fd, c, hb, hF⟩ := h
  obtain ⟨t, a1, a2⟩ := p_val ha p_nil he
  refine ⟨_, pe_instPS (n := 1) (E := WE W) hf c hF hr hb (fun σ => passAt tk σ) a1 he hpl, de_instX (fun ρ Q h => ?_) a2⟩
  simpa using h
end
section
variable {P : Program} {w : World} {K : PySem.W.Frag} {mg : Str → Option Value} {base : Heap} {f : Addr} {fd : FuncData} {x qual : Str} {params : Arguments} {body : List Stmt} {scope : Scope} {ps : List Str} {k : Nat}
theorem hbF {F : Ctr} {Fx : XCtr} (G : FnG P w K mg base (L2.CX P w) k f fd ps (spB K F Fx)) (hm : mg x = some (.ref f)) (F0 : FunD K x qual params body scope [] [] f fd)
    (hb : ∀ (kV doc pm : Value) (an : Option Addr) (cdv ct : Value) (us : List Value), us.length = ps.length → bindArgs (PySem.W.fnOf x qual params body scope .none kV doc pm an cdv ct) ⟨us, []⟩ = pure (ps.zip us)) : Hb P w K mg base x ps k F Fx :=
  ⟨f, fd, hm, F0.kp, F0.bindsN hb, G⟩
end
end DL

namespace DL
open PySem PySem.Spec PyProof.Rows L2
/-! ### isinstance(x, D), D a class of the text; x(e) -/
structure CIs (K : PySem.W.Frag) (C : Addr) : Prop where
  cl : Cls K C
  ha : PySem.W.findIn K (.ref C) "__class__" = some (some (.builtin "object.__class__"))
  hn : PySem.W.specialIn K (.builtin "object.__class__") "__get__" = some (some (.builtin "getset_descriptor.__get__"))
  htk : PySem.W.takesIn K (.builtin "object.__class__") = some true
  hm : PySem.W.mroIn K C (.type "object") = some true
def cisB (K : PySem.W.Frag) (C : Addr) : Bool := decide (PySem.W.findIn K (.ref C) "__class__" = some (some (.builtin "object.__class__"))) && (decide (PySem.W.specialIn K (.builtin "object.__class__") "__get__" = some (some (.builtin "getset_descriptor.__get__"))) && (decide (PySem.W.takesIn K (.builtin "object.__class__") = some true) && decide (PySem.W.mroIn K C (.type "object") = some true)))
theorem cisB_ok {K : PySem.W.Frag} {C : Addr} (cl : Cls K C) (h : cisB K C = true) : CIs K C := by
  unfold cisB at h
  simp only [Bool.and_eq_true, decide_eq_true_eq] at h
  exact ⟨cl, h.1, h.2.1, h.2.2.1, h.2.2.2⟩
def tyO : DD → Option Value
  | .obj C _ => some (.ref C)
  | d => (dTy d).map Value.type
@[simp] def oIsiO (K : PySem.W.Frag) (D : Addr) : OpN := fun ds P => ∃ d t b, ds = [d, .opq (.ref D)] ∧ tyO d = some t ∧ (∀ C fs, d = .obj C fs → CIs K C) ∧ PySem.W.kitOne K t (.ref D) = some b ∧ P (.bl b)
theorem Rq.tyO {K : PySem.W.Frag} {G : Hp} {x : V} {d : DD} {t : Value} (h : Rq K G x d) (e : DL.tyO d = some t) (hc : ∀ C fs, d = .obj C fs → CIs K C) : TyX K G x t := by
  cases d with
  | obj C fs =>
    obtain ⟨a, dx, gs, rfl, ga, _⟩ := h.obj_inv
    have c := hc C fs rfl
    have et : Value.ref C = t := Option.some.inj e
    subst et
    exact .base (.ins ga c.cl c.ha c.hn c.htk c.hm)
  | non => cases Option.some.inj e; exact h.tyX rfl
  | bl b => cases Option.some.inj e; exact h.tyX rfl
  | int i => cases Option.some.inj e; exact h.tyX rfl
  | str z => cases Option.some.inj e; exact h.tyX rfl
  | lst l => cases Option.some.inj e; exact h.tyX rfl
  | tup l => cases Option.some.inj e; exact h.tyX rfl
  | at_ v z =>
    cases z with
    | lst l => cases Option.some.inj e; exact h.tyX rfl
    | _ => cases e
  | _ => cases e
/-- tells an own class to a rule -/
def OwnC (_ : Addr) : Prop := True
theorem ownC (D : Addr) : OwnC D := trivial
theorem p_isiO {X : Cx} {io : List Nat} {a b : Expr} {p pos : Pos} {fos : FOs} {D : Addr} {K : PySem.W.Frag} (hK : X.K = K) (_ : OwnC D) (hm : X.mg "isinstance" = none) (ha : PDos X io [a, b] fos) (hg : Gl X "isinstance" := by rfl) (he : starEach [a, b] X.env = (false, eval a X.env) :: starEach [b] X.env := by rfl)
    (hpl : (backTo pos (starEach [b] X.env)).any (·.1) = false := by rfl) : PDv X io (.Call (.Name "isinstance" p) [a, b] [] pos) (fCB (oIsiO K D) fos) := by
  subst hK
  exact p_cb call_isi (fun H xs ds P Q hx h k => by
    obtain ⟨d, t, bb, rfl, e, hc, hk, q⟩ := h
    obtain ⟨x, y, rfl, r, s⟩ := hx.two
    have := s.opq_inv
    subst this
    exact ⟨x, .ref D, t, _, bb, rfl, .own D, r.tyO e hc, hk, k _ _ q (.bl _)⟩) hm PyProof.Rows.boot_isinstance ha hg (by decide) (by decide) he hpl
theorem kit_same {K : PySem.W.Frag} {D : Addr} : PySem.W.kitOne K (.ref D) (.ref D) = some true := by
  unfold PySem.W.kitOne
  rw [if_pos (by simp)]
section
variable {X : Cx} {io : List Nat} {C : Addr} {ps : List Str} {k : Nat} {F : Ctr} {x : Str} {e : Expr} {pn pos : Pos} {fe : FE}
/-- x(e), e a tree given away -/
theorem e_instV {i : Nat} {te : TE} (h : Hin_ X.prog X.w X.K X.mg X.base C ps [] k F) (hr : RoomG k X.A) (hf : PE X (.Name x pn) te) (hte : te = tVar i) (ha : PDe X io e fe)
    (he : starEach [e] X.env = (false, eval e X.env) :: starEach [] X.env := by rfl) (hpl : (backTo pos (starEach [] X.env)).any (·.1) = false := by rfl) : PDe X io (.Call (.Name x pn) [e] [] pos) (fInst C F i (aVal fe aNil)) := by
  subst hte
  obtain ⟨g, fd, c, hb, hF⟩ := h
  obtain ⟨t, a1, a2⟩ := a_val ha a_nil he
  refine ⟨_, pe_instP (n := 1) (E := fun _ _ _ => False) hf c hF hr hb pass0 a1 he hpl, de_inst (fun ρ Q h => ?_) a2⟩
  simpa using h
end
theorem eqD_self {d : DD} (h : okD d = true) : eqD d d = true := by
  have := (okD_of h).2
  unfold SeqAt.shaped at this
  simp only [Bool.and_eq_true] at this
  exact PySem.SeqAt.eqv_refl _ this.1
end DL

namespace DL
open PySem PySem.Spec PyProof.Rows L2
/-! ### C(e, ..) that ends, or raises -/
section
variable {X : Cx} {CX : CXT} {k n : Nat} {C f : Addr} {fd : FuncData} {ps ks : List Str} {sp : Sp} {E : L2.St → XK} {x : Str} {p pn pos : Pos} {e : Expr} {es : List Expr} {kws : List Keyword} {t tk : TA}
theorem run_makeSG {pins : List (Addr × Obj)} {σ : L2.St} {H : Hp} {s : Shared} {Q : VK} {us : List Value} {vs : List V} (M : Mk X.K C f) (F : FnG X.prog X.w X.K X.mg X.base CX k f fd ps sp) (hr : RoomG (k + 1) X.A) (hb : Binds X.K fd ps [])
    (hx : PassesAt CX X σ (E σ)) (I : Inv X pins σ H s) (r : Vals vs us) (h : ∀ x dx, H x = none → H dx = none → dx ≠ x → sp (.ref x :: vs) (upd (upd H dx (.own x)) x (.ins C dx [])) (fun v H2 => v = .non ∧ Q (.ref x) H2) (E σ)) :
    wpAny (model X.prog X.w) X.A (call (.ref C) us) (EP X pins σ Q) X.xe s := by
  have q := h (s.heap.objs.size + 1) s.heap.objs.size (I.hok.fresh (Nat.le_succ _)) (I.hok.fresh (Nat.le_refl _)) (Nat.ne_of_lt (Nat.lt_succ_self _))
  have J := Inv.made (C := C) I
  have rs : Vals (V.ref (s.heap.objs.size + 1) :: vs) (Value.ref (s.heap.objs.size + 1) :: us) := .cons rfl r
  have ln : (Value.ref (s.heap.objs.size + 1) :: us ++ []).length = ps.length := by
    rw [List.append_nil, ← rs.length]
    exact F.len _ _ _ _ q
  have bd := hb _ (Value.ref (s.heap.objs.size + 1) :: us) J.kIn ln
  rw [List.append_nil] at bd
  refine wpAny_call (make_map (f := f) I.kIn M.makes M.init (beq_iff_eq.mp M.fn) (codeAny_mono (F.run _ X.stack _ _ ⟨Value.ref (s.heap.objs.size + 1) :: us, []⟩ (Value.ref (s.heap.objs.size + 1) :: us) _ _ (E σ) (hr.make C us [])
    (J.env0.make C us []) bd rs q) fun r s' hq => ?_))
  cases r with
  | error er => exact hx pins _ _ er s' J hq
  | ok fl =>
    cases fl with
    | next => exact hq.elim
    | brk => exact hq.elim
    | cont => exact hq.elim
    | ret u =>
      obtain ⟨v, H', I3, rv, ev, q3⟩ := J.after hq
      subst ev
      exact ⟨rv, ⟨V.ref (s.heap.objs.size + 1), H', I3, rfl, q3⟩⟩
def tMakeS (C : Addr) (sp : Sp) (E : L2.St → XK) (t : TA) : TE := fun σ H Q => t σ H fun vs H1 => ∀ x dx, H1 x = none → H1 dx = none → dx ≠ x → sp (.ref x :: vs) (upd (upd H1 dx (.own x)) x (.ins C dx [])) (fun v H2 => v = .non ∧ Q (.ref x) H2) (E σ)
theorem pe_makeSG (M : Mk X.K C f) (F : FnG X.prog X.w X.K X.mg X.base CX k f fd ps sp) (hr : RoomG (k + 1) X.A) (hg : Gl X x) (hm : X.mg x = some (.ref C)) (hb : Binds X.K fd ps []) (hx : ∀ σ, PassesAt CX X σ (E σ))
    (ha : PA X (e :: es) t) (hdb : (x == ("__debug__" : Str)) = false := by decide) (he : starEach (e :: es) X.env = (false, eval e X.env) :: starEach es X.env := by rfl) (hpl : (backTo pos (starEach es X.env)).any (·.1) = false := by rfl) :
    PE X (.Call (.Name x pn) (e :: es) [] pos) (tMakeS C sp E t) := ⟨fun pins s σ H Q I h => by
  refine wpAny_Call_Name_kw (ld_glob I hg hm ?_ hdb)
  refine PySem.W.callWith_K (h₀ := X.base) I.ok.mod.kin M.kp (thn (ha.run pos pins s σ H _ I h) fun us s1 ⟨vs, H1, I1, r, q⟩ => ⟨I1.kIn, ?_⟩) he hpl
  exact run_makeSG M F hr hb (hx σ) I1 r q⟩
theorem run_makeSP {pins : List (Addr × Obj)} {σ : L2.St} {H : Hp} {s : Shared} {Q : VK} {us ws : List Value} {vs zs : List V} {ix : List Nat} (M : Mk X.K C f) (F : FnG X.prog X.w X.K X.mg X.base CX k f fd ps sp) (hr : RoomG (k + 1) X.A) (hb : BndP X.K fd ps ks n ix)
    (hx : PassesAt CX X σ (E σ)) (I : Inv X pins σ H s) (r : Vals vs us) (rz : Vals zs ws) (l1 : vs.length = n) (l2 : zs.length = ks.length)
    (h : ∀ x dx, H x = none → H dx = none → dx ≠ x → sp (.ref x :: gP n ks.length ix vs zs) (upd (upd H dx (.own x)) x (.ins C dx [])) (fun v H2 => v = .non ∧ Q (.ref x) H2) (E σ)) :
    wpAny (model X.prog X.w) X.A (call (.ref C) us (ks.zip ws)) (EP X pins σ Q) X.xe s := by
  have q := h (s.heap.objs.size + 1) s.heap.objs.size (I.hok.fresh (Nat.le_succ _)) (I.hok.fresh (Nat.le_refl _)) (Nat.ne_of_lt (Nat.lt_succ_self _))
  have J := Inv.made (C := C) I
  have rs : Vals (V.ref (s.heap.objs.size + 1) :: gP n ks.length ix vs zs) (Value.ref (s.heap.objs.size + 1) :: gP n ks.length ix us ws) := .cons rfl (Vals.gP r rz)
  have bd := hb _ (Value.ref (s.heap.objs.size + 1)) us ws J.kIn (r.length.symm.trans l1) (rz.length.symm.trans l2)
  refine wpAny_call (make_map (f := f) I.kIn M.makes M.init (beq_iff_eq.mp M.fn) (codeAny_mono (F.run _ X.stack _ _ ⟨Value.ref (s.heap.objs.size + 1) :: us, ks.zip ws⟩ _ _ _ (E σ) (hr.make C us (ks.zip ws))
    (J.env0.make C us (ks.zip ws)) bd rs q) fun r s' hq => ?_))
  cases r with
  | error er => exact hx pins _ _ er s' J hq
  | ok fl =>
    cases fl with
    | next => exact hq.elim
    | brk => exact hq.elim
    | cont => exact hq.elim
    | ret u =>
      obtain ⟨v, H', I3, rv, ev, q3⟩ := J.after hq
      subst ev
      exact ⟨rv, ⟨V.ref (s.heap.objs.size + 1), H', I3, rfl, q3⟩⟩
def tMakeSP (C : Addr) (n m : Nat) (ix : List Nat) (sp : Sp) (E : L2.St → XK) (t tk : TA) : TE := fun σ H Q => t σ H fun vs H1 => tk σ H1 fun zs H2 => vs.length = n ∧ zs.length = m ∧ ∀ x dx, H2 x = none → H2 dx = none → dx ≠ x →
  sp (.ref x :: gP n m ix vs zs) (upd (upd H2 dx (.own x)) x (.ins C dx [])) (fun v H3 => v = .non ∧ Q (.ref x) H3) (E σ)
theorem pe_makeSP0 {ix : List Nat} (M : Mk X.K C f) (F : FnG X.prog X.w X.K X.mg X.base CX k f fd ps sp) (hr : RoomG (k + 1) X.A) (hg : Gl X x) (hm : X.mg x = some (.ref C)) (hb : BndP X.K fd ps ks 0 ix) (hx : ∀ σ, PassesAt CX X σ (E σ))
    (hkw : PK X kws tk) (hall : (backToKw pos (keywordEach kws X.env)).all (·.1.isSome) = true) (hks : (backToKw pos (keywordEach kws X.env)).filterMap (·.1) = ks) (hdb : (x == ("__debug__" : Str)) = false)
    (hpl : ((backTo pos (starEach [] X.env)).any (·.1) || (backToKw pos (keywordEach kws X.env)).any (·.1.isNone)) = false) : PE X (.Call (.Name x p) [] kws pos) (tMakeSP C 0 ks.length ix sp E tNil tk) := by
  refine ⟨fun pins s σ H Q I h => wpAny_Call_Name_kw (ld_glob I hg hm ?_ hdb)⟩
  refine PySem.W.callWith_KW0 (h₀ := X.base) I.ok.mod.kin M.kp hall (thn (hkw.run pos pins s σ H _ I h) ?_) hpl
  rintro ws s2 ⟨zs, H2, I2, rz, l1, l2, q2⟩
  refine ⟨I2.kIn, ?_⟩
  rw [hks]
  exact run_makeSP (us := []) M F hr hb (hx σ) I2 .nil rz l1 l2 q2
end
/-- made, or raised ahead of it -/
theorem make_coreX {K : PySem.W.Frag} {B : Bs} {σ : L2.St} {G1 H1 : Hp} {ρ1 : Rho} {fp1 : Nat → List Addr} {Fx : XCtr} {C : Addr} {ds : List DD} {vs : List V} {Q : VK} {Wd : WD} {W : WX}
    (R : Rp K B G1 H1 σ ρ1 fp1) (rq : RqA K G1 vs ds) (q : Fx (.ob C [] :: ds.map .dat) fun Cx t _ => Wd Cx t ρ1) (sx : SimX K B Wd W) :
    ∀ p dx, H1 p = none → H1 dx = none → dx ≠ p → spE K Fx (.ref p :: vs) (upd (upd H1 dx (.own p)) p (.ins C dx [])) Q (WE W σ) := by
  intro p dx hp hd hne
  have gp : G1 p = none := by
    cases e : G1 p with
    | none => rfl
    | some u => have := R.co.sub _ _ e; rw [hp] at this; cases this
  have gd : G1 dx = none := by
    cases e : G1 dx with
    | none => rfl
    | some u => have := R.co.sub _ _ e; rw [hd] at this; cases this
  generalize hH : upd (upd H1 dx (.own p)) p (.ins C dx []) = H2
  have h2p : H2 p = some (.ins C dx []) := by rw [← hH]; exact upd_same
  have h2d : H2 dx = some (.own p) := by rw [← hH, upd_ne hne]; exact upd_same
  have h2o : ∀ a o, H1 a = some o → H2 a = some o := fun a o e => by
    rw [← hH, upd_ne (ne_of_none e hp), upd_ne (ne_of_none e hd)]; exact e
  have h2n : ∀ a, H2 a = none → H1 a = none := fun a e => by
    cases z : H1 a with
    | none => rfl
    | some o => rw [h2o a o z] at e; cases e
  let g : Nat → List Addr := fun i => if i = 0 then [p, dx] else []
  have gin : ∀ a, In g a → a = p ∨ a = dx := fun a ⟨i, m⟩ => by
    by_cases e : i = 0
    · simp [g, e] at m; exact m
    · simp [g, e] at m
  have gn1 : ∀ a, In g a → H1 a = none := fun a m => by
    rcases gin a m with e | e
    · rw [e]; exact hp
    · rw [e]; exact hd
  refine ⟨G1, .ob C [] :: ds.map .dat, g, _, ⟨by simp [rq.length], fun a o e => h2o a o (R.co.sub a o e), fun i t e => ?_, fun i e => ?_, fun i j a m1 m2 => ?_⟩, q, fun Cx dx' v t as' G' H' fp' fr c st inn e ot d1 d2 q2 => ?_⟩
  · cases i with
    | zero =>
      have : SV.ob C [] = t := by simpa using e
      subst this
      exact ⟨.ref p, rfl, .ob h2p h2d gp gd .nil (fun z => hne z.symm) (fun z => nomatch z) (fun z => nomatch z)⟩
    | succ i =>
      have e' : (ds.map SV.dat)[i]? = some t := by simpa using e
      rw [List.getElem?_map] at e'
      cases h : ds[i]? with
      | none => rw [h] at e'; cases e'
      | some d =>
        rw [h] at e'
        have : SV.dat d = t := by simpa using e'
        subst this
        obtain ⟨u, hu, ru⟩ := rq.get h
        exact ⟨u, by simp [hu], .dat ru⟩
  · cases i with
    | zero => exact absurd rfl (e (.ob C []))
    | succ i => rfl
  · cases i with
    | zero =>
      cases j with
      | zero => rfl
      | succ j => cases m2
    | succ i => cases m1
  · have keep : ∀ a o, H1 a = some o → H' a = some o := fun a o e => st.keep a o (fun m => by rw [gn1 a m] at e; cases e) (h2o a o e)
    have hid : ∀ a o, H1 a = some o → G1 a = none → G' a = none := fun a o e g0 => st.hid a o (fun m => by rw [gn1 a m] at e; cases e) (h2o a o e) g0
    have new : ∀ a ∈ fr, H1 a = none := fun a m => (d2 a m).elim (h2n a) (gn1 a)
    have st2 : Stp (In fp1) G1 H1 G' H' := ⟨st.ex, fun a o _ e => keep a o e, fun a o _ e g0 => hid a o e g0⟩
    refine sx.ex G' H' σ ρ1 fp1 Cx dx' v t fr ⟨R.co.grow st.ex (fun a _ o e => keep a o e) (fun a m => by
      obtain ⟨⟨o, e⟩, g0⟩ := R.co.here m
      exact hid a o e g0) c.sub, R.stp.trans st2 R.own, R.own, R.io, R.lo.trans st.ex⟩ e ot (fun a m z => ?_) (R.base fun a m => .inl (new a m)) q2
    obtain ⟨⟨o, e⟩, _⟩ := R.co.here z
    rw [new a m] at e; cases e
def HmB (P : Program) (w : World) (K : PySem.W.Frag) (mg : Str → Option Value) (base : Heap) (C : Addr) (x : Str) (ps : List Str) (k : Nat) (F : Ctr) (Fx : XCtr) : Prop :=
  ∃ f fd, mg x = some (.ref C) ∧ Mk K C f ∧ Binds K fd ps [] ∧ FnG P w K mg base (L2.CX P w) k f fd ps (spB K F Fx)
def HmBP (P : Program) (w : World) (K : PySem.W.Frag) (mg : Str → Option Value) (base : Heap) (C : Addr) (x : Str) (ps ks : List Str) (ix : List Nat) (k : Nat) (F : Ctr) (Fx : XCtr) : Prop :=
  ∃ f fd, mg x = some (.ref C) ∧ Mk K C f ∧ BndP K fd ps ks 0 ix ∧ FnG P w K mg base (L2.CX P w) k f fd ps (spB K F Fx)
section
variable {X : Cx} {W : WX} {io : List Nat} {C : Addr} {x : Str} {ps ks : List Str} {ix : List Nat} {k : Nat} {F : Ctr} {Fx : XCtr} {c a b e : Expr} {es : List Expr} {fa : FAs} {fk : FDs} {kws : List Keyword} {pn pos : Pos}
@[simp] def fMakeX (C : Addr) (F : Ctr) (Fx : XCtr) (fa : FAs) : FEx := fun Wd ρ Q => fa ρ fun avs ρ1 => ∃ ds : List DD, avs = ds.map (fun d => AV.val (.dat d)) ∧
  ((F (.ob C [] :: ds.map .dat) fun r as' => r = .dat .non ∧ ∃ t rest, as' = t :: rest ∧ Q t ρ1) ∨ Fx (.ob C [] :: ds.map .dat) fun Cx t _ => Wd Cx t ρ1)
theorem ex_make (tk : Takes X W) (h : HmB X.prog X.w X.K X.mg X.base C x ps k F Fx) (hr : RoomG (k + 1) X.A) (ha : PDas X io (e :: es) fa) (hg : Gl X x := by rfl) (hdb : (x == ("__debug__" : Str)) = false := by decide)
    (he : starEach (e :: es) X.env = (false, eval e X.env) :: starEach es X.env := by rfl) (hpl : (backTo pos (starEach es X.env)).any (·.1) = false := by rfl) : PDex X W io (.Call (.Name x pn) (e :: es) [] pos) (fMakeX C F Fx fa) := by
  obtain ⟨f, fd, hm, M, hb, hF⟩ := h
  obtain ⟨t, a1, a2⟩ := ha
  refine ⟨_, pe_makeSG (E := WE W) M hF hr hg hm hb (fun σ => passAt tk σ) a1 hdb he hpl, fun B G H σ ρ fp Qd Q Wd hB R hf sx k => ?_⟩
  refine a2 B G H σ ρ fp _ _ hB R hf fun avs ρ1 vs G1 H1 fp1 fr n1 ar t1 t2 ⟨ds, ea, q⟩ => ?_
  subst ea
  intro p dx hp hd hne
  rcases q with q | q
  · exact .inl (make_core R n1 (AVR.dats ar) q k p dx hp hd hne)
  · exact .inr (make_coreX n1.rp (AVR.dats ar) q sx p dx hp hd hne)
@[simp] def fMakePX (C : Addr) (F : Ctr) (Fx : XCtr) (m : Nat) (ix : List Nat) (fk : FDs) : FEx := fun Wd ρ Q => fk ρ fun es ρ1 => es.length = m ∧
  ((F (.ob C [] :: (gP 0 m ix [] es).map .dat) fun r as' => r = .dat .non ∧ ∃ t rest, as' = t :: rest ∧ Q t ρ1) ∨ Fx (.ob C [] :: (gP 0 m ix [] es).map .dat) fun Cx t _ => Wd Cx t ρ1)
theorem ex_makeP (tk : Takes X W) (h : HmBP X.prog X.w X.K X.mg X.base C x ps ks ix k F Fx) (hr : RoomG (k + 1) X.A) (hkw : PDkw X io kws fk) (hg : Gl X x := by rfl) (hdb : (x == ("__debug__" : Str)) = false := by decide)
    (hall : (backToKw pos (keywordEach kws X.env)).all (·.1.isSome) = true := by rfl) (hks : (backToKw pos (keywordEach kws X.env)).filterMap (·.1) = ks := by rfl)
    (hpl : ((backTo pos (starEach [] X.env)).any (·.1) || (backToKw pos (keywordEach kws X.env)).any (·.1.isNone)) = false := by rfl) : PDex X W io (.Call (.Name x pn) [] kws pos) (fMakePX C F Fx ks.length ix fk) := by
  obtain ⟨f, fd, hm, M, hb, hF⟩ := h
  obtain ⟨t, a1, a2⟩ := hkw
  refine ⟨_, pe_makeSP0 (E := WE W) M hF hr hg hm hb (fun σ => passAt tk σ) a1 hall hks hdb hpl, fun B G H σ ρ fp Qd Q Wd hB R hf sx kk => ?_⟩
  refine a2 B G H σ ρ fp _ _ hB R hf fun es ρ1 zs G1 H1 fp1 n1 rs ⟨le, q⟩ => ?_
  refine ⟨rfl, by rw [rs.length, le], fun p dx hp hd hne => ?_⟩
  rcases q with q | q
  · exact .inl (make_core R n1 (RqA.gP .nil rs) q kk p dx hp hd hne)
  · exact .inr (make_coreX n1.rp (RqA.gP .nil rs) q sx p dx hp hd hne)
@[simp] def fIfX (ft : FT) (fa fb : FEx) : FEx := fun Wd ρ Q => ft ρ fun b ρ1 => if b = true then fa Wd ρ1 Q else fb Wd ρ1 Q
theorem ex_if {ft : FT} {fa fb : FEx} (hc : PDt X io c ft) (ha : PDex X W io a fa) (hb : PDex X W io b fb) : PDex X W io (.IfExp c a b pos) (fIfX ft fa fb) := by
  obtain ⟨_, c1, c2⟩ := hc
  obtain ⟨_, a1, a2⟩ := ha
  obtain ⟨_, b1, b2⟩ := hb
  refine ⟨_, pe_ifExp c1 a1 b1, fun B G H σ ρ fp Qd Q Wd hB R hf sx k => ?_⟩
  refine c2 B G H σ ρ fp _ _ hB R hf fun b ρ1 G1 H1 fp1 n1 hf => ?_
  have back : ∀ {fr : List Addr}, (∀ a ∈ fr, H1 a = none ∨ In fp1 a) → ∀ a ∈ fr, H a = none ∨ In fp a := fun h a m => by
    rcases h a m with z | z
    · by_cases q : In fp a
      · exact .inr q
      · exact .inl (n1.st.fresh q z)
    · exact (n1.inn a z).symm
  cases b with
  | true => exact a2 B G1 H1 σ ρ1 fp1 _ _ Wd hB n1.rp hf sx fun r ρ' v G' H' fp' fr n ot t1 t2 q => k r ρ' v G' H' fp' fr (n1.trans n) ot t1 (back t2) q
  | false => exact b2 B G1 H1 σ ρ1 fp1 _ _ Wd hB n1.rp hf sx fun r ρ' v G' H' fp' fr n ot t1 t2 q => k r ρ' v G' H' fp' fr (n1.trans n) ot t1 (back t2) q
end
end DL

namespace DL
open PySem PySem.Spec PyProof.Rows L2
/-! ### written dicts of ints as data, d.get(k, x); a table's missing words; sorted(a list of ints) -/
theorem rqF_look0 {K : PySem.W.Frag} {G : Hp} {fs : List (Str × V)} {ds : List (Str × DD)} {k : Str} (h : RqF K G fs ds) : (∃ v d, valV (fs.map fun p => ((Sum.inr p.1 : L2.Key), p.2)) (Sum.inr k) = some v ∧ ds.lookup k = some d ∧ Rq K G v d) ∨ valV (fs.map fun p => ((Sum.inr p.1 : L2.Key), p.2)) (Sum.inr k) = none ∧ ds.lookup k = none := by
  match fs, ds, h with
  | _, _, .nil => exact .inr ⟨rfl, rfl⟩
  | _, _, .cons (f := f) (v := v) (d := d) (vs := vs) (ds := ds) a b =>
    by_cases e : f = k
    · subst e
      exact .inl ⟨v, d, valV_pos rfl, by rw [List.lookup_cons]; simp, a⟩
    · have e1 : valV (((f, v) :: vs).map fun p => ((Sum.inr p.1 : L2.Key), p.2)) (Sum.inr k) = valV (vs.map fun p => ((Sum.inr p.1 : L2.Key), p.2)) (Sum.inr k) := valV_neg (fun z => e (Sum.inr.inj z))
      have e2 : ((f, d) :: ds).lookup k = ds.lookup k := by
        rw [List.lookup_cons]
        have : (k == f) = false := by simpa using fun z => e z.symm
        rw [this]
      rw [e1, e2]
      exact rqF_look0 b
theorem Rq.dct_inv {K : PySem.W.Frag} {G : Hp} {v : V} {ds : List (Str × DD)} (h : Rq K G v (.dct ds)) : ∃ a fs, v = .ref a ∧ G a = some (.dK (fs.map fun p => (Sum.inr p.1, p.2))) ∧ RqF K G fs ds := by
  cases h with
  | dct h r => exact ⟨_, _, rfl, h, r⟩
def dctI (T : List (Str × Int)) : DD := .dct (T.map fun p => (p.1, .int p.2))
def vI (T : List (Str × Int)) : List (Str × V) := T.map fun p => (p.1, V.int p.2)
theorem rqF_I {K : PySem.W.Frag} {G : Hp} : ∀ T : List (Str × Int), RqF K G (vI T) (T.map fun p => (p.1, DD.int p.2))
  | [] => .nil
  | (_, i) :: r => .cons (.int i) (rqF_I r)
def trI (T : List (Str × Int)) : List (TE × TE) := T.map fun p => (tC (.str p.1), tC (.int p.2))
theorem trI_run {σ : L2.St} : ∀ {T : List (Str × Int)} {H : Hp} {Q : List (V × V) → Hp → Prop}, Q (T.map fun p => (V.str p.1, V.int p.2)) H → tPairs (trI T) σ H Q
  | [], _, _, q => q
  | (z, i) :: r, H, Q, q => by
    show tPairs (trI r) σ H fun ps H3 => Q ((V.str z, V.int i) :: ps) H3
    exact trI_run (Q := fun ps H3 => Q ((V.str z, V.int i) :: ps) H3) q
section
variable {X : Cx} {io : List Nat} {a b e f o : Expr} {pos apos cpos p q : Pos} {fo fe : FO} {fv : FV}
theorem v_dct {keys : List (Option Expr)} {values : List Expr} (T : List (Str × Int)) (h : PPs X pos keys values (trI T)) (hm : mergeK [] ((vI T).map fun p => ((Sum.inr p.1 : L2.Key), p.2)) = (vI T).map fun p => ((Sum.inr p.1 : L2.Key), p.2)) (hn : T.length ≤ 15 := by decide)
    (hall : keys.all (·.isSome) = true := by rfl) (hl : keys.length = values.length := by rfl) (h0 : keys ≠ [] := by intro z; cases z) (h15 : keys.length ≤ 15 := by decide) : PDv X io (.Dict keys values pos) (fC (dctI T)) := by
  refine ⟨_, pe_disp h hall hl h0 h15, fun B G H σ ρ fp Qd Q hB R hf k => ?_⟩
  intro p hp
  refine trI_run ⟨upd_same, (vI T).map fun p => ((Sum.inr p.1 : L2.Key), p.2), ?_, by simp [vI]; exact hn, ?_⟩
  · simp [vI, Function.comp_def]
    intro a b _
    rfl
  · rw [hm]
    have eH : upd (upd H p (.dK [])) p (.dK ((vI T).map fun p => ((Sum.inr p.1 : L2.Key), p.2))) = upd H p (.dK ((vI T).map fun p => ((Sum.inr p.1 : L2.Key), p.2))) := by
      funext x
      by_cases e : x = p
      · rw [e, upd_same, upd_same]
      · rw [upd_ne e, upd_ne e, upd_ne e]
    rw [eH]
    have n := Nxt.stand (o := .dK ((vI T).map fun p => ((Sum.inr p.1 : L2.Key), p.2))) R hp
    exact k (dctI T) ρ (.ref p) _ _ fp n (.dct upd_same (rqF_I T)) hf
@[simp] def fDGet (fo fe : FO) (fv : FV) : FV := fun ρ Q => fo ρ fun o ρ1 => (∃ ds, resT ρ1 o = some (.dat (.dct ds))) ∧ fe ρ1 fun y ρ2 => fv ρ2 fun d ρ3 => ∃ ds k, resT ρ3 o = some (.dat (.dct ds)) ∧ resD ρ3 y = some (.str k) ∧ Q ((ds.lookup k).getD d) ρ3
theorem v_dget {k : Nat} (hr : RoomG k X.A) (ho : PDo X io o fo) (he : PDo X io e fe) (hf : PDv X io f fv) (m : M2 X o "get" apos e f cpos := by exact ⟨rfl, rfl, rfl, rfl⟩) : PDv X io (.Call (.Attribute o "get" apos) [e, f] [] cpos) (fDGet fo fe fv) := by
  obtain ⟨_, o1, o2⟩ := ho
  obtain ⟨_, a1, a2⟩ := he
  obtain ⟨_, b1, b2⟩ := hf
  refine ⟨_, pe_dget2 (hu_of hr.r) o1 a1 b1 m, fun B G H σ ρ fp Qd Q hB R hf k => ?_⟩
  refine o2 B G H σ ρ fp _ _ hB R hf fun z ρ1 v1 G1 H1 fp1 n1 r1 ⟨⟨ds, e1⟩, hf⟩ => ?_
  obtain ⟨_, ot1, _⟩ := r1.tree n1.rp e1
  obtain ⟨x, fs, ev, g1, rf⟩ := ot1.dat_inv.1.dct_inv
  subst ev
  refine ⟨x, rfl, .inl ⟨_, .inl (n1.rp.co.sub _ _ g1)⟩, ?_⟩
  refine a2 B G1 H1 σ ρ1 fp1 _ _ hB n1.rp hf fun y ρ2 v2 G2 H2 fp2 n2 r2 hf => ?_
  refine b2 B G2 H2 σ ρ2 fp2 _ _ hB n2.rp hf fun d ρ3 v3 G3 H3 fp3 n3 r3 ⟨ds', kk, e2, e3, q⟩ => ?_
  obtain ⟨_, ot3, _⟩ := ((r1.next n2).next n3).tree n3.rp e2
  obtain ⟨x', fs', ev, g3, rf3⟩ := ot3.dat_inv.1.dct_inv
  cases ev
  have e4 := ((r2.next n3).rqH n3.rp e3).str_inv
  subst e4
  refine ⟨_, .k (k := Sum.inr kk) (n3.rp.co.sub _ _ g3), ?_⟩
  have nn := (n1.trans n2).trans n3
  rcases rqF_look0 (k := kk) rf3 with ⟨v, d', w1, w2, r⟩ | ⟨w1, w2⟩
  · rw [w1]
    rw [w2] at q
    exact k _ _ _ _ _ _ nn r q
  · rw [w1]
    rw [w2] at q
    exact k _ _ _ _ _ _ nn r3 q
/-- words that a table does not hold -/
def MisK (K : PySem.W.Frag) (d : Addr) (M : List Str) : Prop := ∀ z ∈ M, PySem.W.nsIn K d z = some none
@[simp] def oNinM (d : Addr) (T : List (Str × Int)) (M : List Str) : Op2 := fun x y P => ∃ z, x = .str z ∧ y = .opq (.ref d) ∧ ((∃ i, (z, i) ∈ T ∧ P (.bl false)) ∨ (z ∈ M ∧ P (.bl true)))
theorem q_ninM {d : Addr} {T : List (Str × Int)} {M : List Str} {fa fb : FO} (D : KTab X.K X.w d T) (N : MisK X.K d M) (ha : PDo X io a fa) (hb : PDo X io b fb) (hm : behindInMarks .NotIn b = false := by rfl) : PDt X io (.Compare a [.NotIn] [b] pos) (fTst (fBin (oNinM d T M) fa fb)) := by
  obtain ⟨es, n, D1⟩ := D.ex
  refine t_cmp (op_notIn_kd D1) (fun H x y u v P Q hx hy h k => ?_) hm ha hb
  obtain ⟨z, rfl, rfl, h⟩ := h
  rcases h with ⟨i, m, q⟩ | ⟨m, q⟩
  · obtain ⟨t, e⟩ := D.at_ z i m
    exact ⟨z, _, hx.str_inv, hy.opq_inv, e, k _ _ q (.bl _)⟩
  · exact ⟨z, _, hx.str_inv, hy.opq_inv, N z m, k _ _ q (.bl _)⟩
@[simp] def fSortI (fo : FO) : FE := fun ρ Q => fo ρ fun o ρ1 => ∃ ns : List Int, resD ρ1 o = some (.lst (ns.map .int)) ∧ ∀ out : List Int, out.Perm ns → out.Pairwise (· ≤ ·) → Q (oI out) ρ1
theorem e_sortI (hm : X.mg "sorted" = none) (ha : PDo X io a fo) (hg : Gl X "sorted" := by rfl)
    (na : starEach [a] X.env = (false, eval a X.env) :: starEach [] X.env := by rfl) (hpl : (backTo pos (starEach [] X.env)).any (·.1) = false := by rfl) : PDe X io (.Call (.Name "sorted" p) [a] [] pos) (fSortI fo) := by
  obtain ⟨ta, a1, a2⟩ := ha
  refine ⟨_, pe_callB cr_sortedI hg hm (by decide +kernel) (pa_cons a1 pa_nil na) (by decide) (by decide) na hpl, fun B G H σ ρ fp Qd Q hB R hf k => ?_⟩
  refine a2 B G H σ ρ fp _ _ hB R hf fun o ρ1 v G1 H1 fp1 n1 o1 ⟨ns, e1, q⟩ => ?_
  obtain ⟨l, xs, ev, h, r⟩ := (o1.rqH n1.rp e1).lst_inv
  have := r.ints_inv
  subst this
  subst ev
  refine ⟨l, ns, rfl, .inl h, fun out p hs hm hp => ?_⟩
  have gp : G1 p = none := by
    cases e : G1 p with
    | none => rfl
    | some u => have := n1.rp.co.sub _ _ e; rw [hp] at this; cases this
  have n2 := Nxt.laid (o := .lst (out.map V.int)) n1.rp hp
  refine k (oI out) ρ1 (.ref p) G1 (upd H1 p (.lst (out.map V.int))) fp1 [p] (n1.trans n2) (.own upd_same gp (OTs.ints out) (fun z => nomatch z)) (fun b m z => ?_) (fun b m => ?_) (q out hs hm)
  · have : b = p := by simpa using m
    subst this
    obtain ⟨⟨o, e⟩, _⟩ := n1.rp.co.here z
    rw [hp] at e; cases e
  · have : b = p := by simpa using m
    subst this
    by_cases z : In fp b
    · exact .inr z
    · exact .inl (n1.st.fresh z hp)
/-- .. as data, if nothing in it is a tree -/
@[simp] def fTupN (fs : FSs) : FE := fun ρ Q => fs ρ fun ts ρ1 => ts.length ≤ sizeLine ∧ ((∃ ds : List DD, ts = ds.map .dat ∧ Q (.dat (.tup ds)) ρ1) ∨ Q (.tp ts) ρ1)
theorem e_tupN {es : List Expr} {fs : FSs} {x1} (h : PDs' X io es fs) : PDe X io (.Tuple es x1 pos) (fTupN fs) := by
  obtain ⟨_, a1, a2⟩ := h
  refine ⟨_, pe_tup a1, fun B G H σ ρ fp Qd Q hB R hf k => ?_⟩
  refine a2 B G H σ ρ fp _ _ hB R hf fun ts ρ1 vs G1 H1 fp1 f n1 os t1 t2 ⟨hz, q⟩ => ?_
  refine ⟨by rw [os.length]; exact hz, fun l hl => ?_⟩
  have n3 := n1.trans (Nxt.stand n1.rp (o := .tup vs) hl)
  have gl : G1 l = none := by
    cases e : G1 l with
    | none => rfl
    | some u => have := n1.rp.co.sub _ _ e; rw [hl] at this; cases this
  have nf : ∀ x ∈ f, x ≠ l := fun x m z => by
    obtain ⟨⟨o, e⟩, _⟩ := os.here x m
    rw [z, hl] at e; cases e
  have os' : OTs X.K (upd G1 l (.tup vs)) (upd H1 l (.tup vs)) vs ts f := os.mono (fun x o e => by rw [upd_ne (ne_of_none e gl)]; exact e) (fun x m o e => by rw [upd_ne (nf x m)]; exact e) fun x m => by rw [upd_ne (nf x m)]; exact (os.here x m).2
  rcases q with ⟨ds, e, q⟩ | q
  · subst e
    obtain ⟨r, ef⟩ := os'.dats
    exact k _ _ _ _ _ _ [] n3 (.dat (.tup (.inl (.inl upd_same)) r)) (fun _ z => nomatch z) (fun _ z => nomatch z) q
  · exact k _ _ _ _ _ _ f n3 (.tp (.inl (.inl upd_same)) os') (fun x m => t1 x m) (fun x m => t2 x m) q
end
end DL

namespace DL
open PySem PySem.Spec PyProof.Rows L2
/-! ### for x in xs: xs is told no more, each of its trees is lent to x; xs.clear() -/
section
variable {K : PySem.W.Frag} {B : Bs} {G H G1 H1 : Hp} {σ σ1 : L2.St} {ρ ρ1 : Rho} {fp fp1 : Nat → List Addr}
/-- from here on -/
@[reducible] def Bs.here (B : Bs) (G H : Hp) (fp : Nat → List Addr) : Bs := { B with G0 := G, H0 := H, fp0 := fp, L := G }
theorem Rp.rebase (R : Rp K B G H σ ρ fp) : Rp K (B.here G H fp) G H σ ρ fp := ⟨R.co, Stp.refl G H, fun _ h => .inl h, R.io, Sub.refl _⟩
theorem Rp.back (R : Rp K B G H σ ρ fp) (R' : Rp K (B.here G H fp) G1 H1 σ1 ρ1 fp1) : Rp K B G1 H1 σ1 ρ1 fp1 :=
  ⟨R'.co, R.stp.trans R'.stp R.own, fun a h => (R'.own a h).elim (fun m => R.own a m) fun z => by
    by_cases q : In B.fp0 a
    · exact .inl q
    · exact .inr (R.stp.fresh q z), R'.io, R.lo.trans R'.lo⟩
theorem OTs.uncons {t : SV} {ts : List SV} {vs : List V} {f : List Addr} (h : OTs K G H vs (t :: ts) f) : ∃ v ws f1 f2, vs = v :: ws ∧ f = f1 ++ f2 ∧ OT K G H v t f1 ∧ OTs K G H ws ts f2 ∧ ∀ a ∈ f1, a ∉ f2 := by
  cases h with
  | cons a b d => exact ⟨_, _, _, _, rfl, rfl, a, b, d⟩
theorem OTs.opq : ∀ xs : List V, OTs K G H xs (xs.map fun v => SV.dat (.opq v)) []
  | [] => .nil
  | v :: vs => .cons (f1 := []) (f2 := []) (.dat (.opq v)) (OTs.opq vs) (fun _ z => nomatch z)
end
def fForL (io : List Nat) (i j : Nat) (f : FS) : FS := fun D ρ => ∃ ts, ρ[i]? = some (some (.own ts)) ∧ i ∉ io ∧ j ∉ io ∧ ∃ W : Nat → Rho → Prop, W 0 (ρ.set i none) ∧
  (∀ (k : Nat) t ρ, ts[k]? = some t → W k ρ → f { D with nx := fun ρ' => W (k + 1) (ρ'.set j none), ct := fun ρ' => W (k + 1) (ρ'.set j none), bk := D.nx } (ρ.set j (some t))) ∧ ∀ ρ, W ts.length ρ → D.nx ρ
section
variable {X : Cx} {io : List Nat} {pos px py : Pos} {f : FS}
theorem s_forL {i j : Nat} {x y : Str} {body : List Stmt} {te : TE} (hp : PassesOwn (model X.prog X.w) X.A X.env X.xe) (hc : X.calm = true) (hN : X.N.Nodup) (ho : PE X (.Name y py) te) (ht : te = tVar i) (hb : PDss X io body f)
    (hj : X.N[j]? = some x := by rfl) (hx : Loc X.env.scope x := by first | exact Or.inl rfl | exact Or.inr rfl) (hf : X.fn x = true ∨ X.env.scope.names.lookup x = some .local := by first | exact .inl rfl | exact .inr rfl)
    (hs : ∀ z, foldedSetIterable (.Name y py) X.env z = pure z := by intro _; rfl) : PDs X io (.For (.Name x px) (.Name y py) body [] pos) (fForL io i j f) := by
  subst ht
  obtain ⟨_, c1, c2⟩ := hb
  refine ⟨_, ps_for hp hc (pi_either ho) (pg_name (i := j) hN hj hx hf) c1 hs, fun B G H σ ρ fp Dd Dh hB R hf s => ?_⟩
  obtain ⟨ts, e0, hi, hj', W, w0, hw, hd⟩ := hf
  obtain ⟨v, e1, ot⟩ := R.co.slot i _ e0
  obtain ⟨a, xs, f0, ev, ef, ha, ga, os, na⟩ := ot.own_inv
  subst ev
  have ia : In fp a := ⟨i, by rw [ef]; exact List.mem_cons_self⟩
  have inn : ∀ b, In (fun l => if l = i then [] else fp l) b → In fp b := fun b ⟨l, m⟩ => by
    by_cases e1 : l = i
    · simp [e1] at m
    · simp only [if_neg e1] at m
      exact ⟨l, m⟩
  have out : ∀ b ∈ a :: f0, ¬ In (fun l => if l = i then [] else fp l) b := fun b m ⟨l, m'⟩ => by
    by_cases e1 : l = i
    · simp [e1] at m'
    · simp only [if_neg e1] at m'
      exact e1 (R.co.dis l i b m' (by rw [ef]; exact m))
  have n0 : Nxt X.K B σ G H fp G H (ρ.set i none) (fun l => if l = i then [] else fp l) := ⟨R.drop i (by rw [hB]; exact hi), Stp.refl G H, fun b h => .inl (inn b h)⟩
  have ot' : OT X.K G H (.ref a) (.own (xs.map fun v => SV.dat (.opq v))) [a] := .own ha ga (OTs.opq xs) (fun z => nomatch z)
  obtain ⟨n1, _⟩ := Nxt.sealed R n0 ot' (fun b m => out b (by rw [List.mem_singleton.mp m]; exact List.mem_cons_self)) (fun b m => .inr (by rw [List.mem_singleton.mp m]; exact ia))
  have g1 : sealH G H [a] a = some (.lst xs) := by rw [sealH_in (List.mem_singleton.mpr rfl)]; exact ha
  have os1 : OTs X.K (sealH G H [a]) H xs ts f0 := os.mono (sealH_sub fun b m => by rw [List.mem_singleton.mp m]; exact ga) (fun _ _ _ e => e) fun b m => by
    rw [sealH_out fun z => na (by rw [← List.mem_singleton.mp z]; exact m)]
    exact (os.here b m).2
  have base0 : ∀ b ∈ f0, In B.fp0 b ∨ B.H0 b = none := fun b m => R.own b ⟨i, by rw [ef]; exact List.mem_cons_of_mem _ m⟩
  have ll := os.length
  refine ⟨.ref a, e1, .inl ⟨a, rfl, ⟨xs, .inl (.inl ha)⟩, ?_⟩⟩
  refine ⟨fun k m σ H => m = ts.length - k ∧ k ≤ ts.length ∧ ∃ G ρ fp fr, Rp X.K B G H σ ρ fp ∧ W k ρ ∧ G a = some (.lst xs) ∧ OTs X.K G H (xs.drop k) (ts.drop k) fr ∧ (∀ b ∈ fr, ¬ In fp b) ∧ (∀ b ∈ fr, In B.fp0 b ∨ B.H0 b = none),
    ⟨_, rfl, Nat.zero_le _, _, _, _, f0, n1.rp, w0, g1, os1, fun b m => out b (List.mem_cons_of_mem _ m), base0⟩, ?_⟩
  rintro k m σ2 H2 ⟨rfl, hk, G2, ρ2, fp2, fr2, R2, w2, g2, os2, d2, b2⟩
  have hl2 : SqL X.K H2 a xs := .inl (.inl (R2.co.sub a _ g2))
  by_cases hlt : k < ts.length
  · obtain ⟨t, et⟩ : ∃ t, ts[k]? = some t := ⟨ts[k], List.getElem?_eq_getElem hlt⟩
    have tk : ts.drop k = t :: ts.drop (k + 1) := by
      rw [List.drop_eq_getElem_cons hlt, (List.getElem?_eq_some_iff.mp et).2]
    rw [tk] at os2
    obtain ⟨w, ws, f1, f2, ew, ef2, o1, o2, d12⟩ := os2.uncons
    have xk : xs[k]? = some w := by
      have := congrArg List.head? ew
      rw [List.head?_drop] at this
      exact this
    have wk : ws = xs.drop (k + 1) := by
      have := congrArg List.tail ew
      rw [List.tail_drop] at this
      exact this.symm
    refine .inr ⟨⟨xs, w, hl2, xk⟩, fun σ' H' => ∃ G ρ fp fr, Rp X.K B G H' σ' ρ fp ∧ W (k + 1) ρ ∧ G a = some (.lst xs) ∧ OTs X.K G H' (xs.drop (k + 1)) (ts.drop (k + 1)) fr ∧ (∀ b ∈ fr, ¬ In fp b) ∧ (∀ b ∈ fr, In B.fp0 b ∨ B.H0 b = none), fun σ' H' q => ⟨ts.length - (k + 1), by omega, rfl, hlt, q⟩, fun z H3 yx => ?_⟩
    obtain ⟨rfl, y⟩ := yx
    have ez := y xs hl2
    rw [xk] at ez
    injection ez with ez
    subst ez
    have in1 : ∀ b ∈ f1, b ∈ fr2 := fun b m => by rw [ef2]; exact List.mem_append_left _ m
    have in2 : ∀ b ∈ f2, b ∈ fr2 := fun b m => by rw [ef2]; exact List.mem_append_right _ m
    have R3 := R2.put (i := j) (by rw [hB]; exact hj') o1 (fun b m => d2 b (in1 b m)) (fun b m => b2 b (in1 b m))
    have n3 := out_put (ρ := ρ2) (i := j) (fun b m => d2 b (in2 b m)) d12
    have nxt : ∀ G4 H4 σ4 ρ4 fp4, Rp X.K (B.here G2 H3 (fun l => if l = j then (if j < ρ2.length then f1 else []) else fp2 l)) G4 H4 σ4 ρ4 fp4 → W (k + 1) (ρ4.set j none) →
        ∃ G ρ fp fr, Rp X.K B G H4 σ4 ρ fp ∧ W (k + 1) ρ ∧ G a = some (.lst xs) ∧ OTs X.K G H4 (xs.drop (k + 1)) (ts.drop (k + 1)) fr ∧ (∀ b ∈ fr, ¬ In fp b) ∧ (∀ b ∈ fr, In B.fp0 b ∨ B.H0 b = none) := fun G4 H4 σ4 ρ4 fp4 R4 w4 => by
      have R5 := R3.back R4
      have nn : ∀ b ∈ f2, ¬ In fp4 b := fun b m q => by
        rcases R4.own b q with z | z
        · exact n3 b m z
        · obtain ⟨⟨o, h⟩, _⟩ := o2.here b m
          have z : H3 b = none := z
          rw [z] at h; cases h
      refine ⟨G4, _, _, f2, R5.drop j (by rw [hB]; exact hj'), w4, R4.stp.ex _ _ g2, ?_, fun b m ⟨l, q⟩ => ?_, fun b m => b2 b (in2 b m)⟩
      · rw [← wk]
        refine o2.mono R4.stp.ex (fun b m o h => R4.stp.keep b o (n3 b m) h) fun b m => ?_
        obtain ⟨⟨o, h⟩, g⟩ := o2.here b m
        exact R4.stp.hid b o (n3 b m) h g
      · by_cases e : l = j
        · simp [e] at q
        · simp only [if_neg e] at q
          exact nn b m ⟨l, q⟩
    refine c2 (B.here G2 H3 _) G2 H3 _ _ _ _ _ (by exact hB) R3.rebase (hw k t ρ2 et w2) ⟨fun G H σ ρ fp R z => nxt G H σ ρ fp R z, fun G H σ ρ fp r v fr R o t1 t2 z => ?_, fun G H σ ρ fp R z => s.nx G H σ ρ fp (R3.back R) z, fun G H σ ρ fp R z => nxt G H σ ρ fp R z⟩
    refine s.rt G H σ ρ fp r v fr (R3.back R) o t1 (fun b m => ?_) z
    rcases t2 b m with q | q
    · exact R3.own b q
    · by_cases q2 : In B.fp0 b
      · exact .inl q2
      · exact .inr (R3.stp.fresh q2 q)
  · have e : k = ts.length := by omega
    subst e
    exact .inl ⟨⟨xs, hl2, by omega⟩, s.nx _ _ _ _ _ R2 (hd ρ2 w2)⟩
@[simp] def fClear (i : Nat) : FE := fun ρ Q => ∃ ts, ρ[i]? = some (some (.own ts)) ∧ Q (.dat .non) (ρ.set i (some (.own [])))
theorem e_clear {te : TE} {o : Expr} {apos : Pos} (i : Nat) (ho : PE X o te) (ht : te = tVar i) (hbm : PE X (.Call (.Attribute o "clear" apos) [] [] pos) (tBM0 X.K "list" rClear (tVar i))) : PDe X io (.Call (.Attribute o "clear" apos) [] [] pos) (fClear i) := by
  subst ht
  refine ⟨_, hbm, fun B G H σ ρ fp Qd Q hB R hf k => ?_⟩
  obtain ⟨ts, e0, q⟩ := hf
  obtain ⟨l, vs, f, s0, ef, h0, g0, os, nl⟩ := R.ownAt e0
  refine ⟨.ref l, s0, .inl ⟨rfl, _, .inl (.inl h0)⟩, l, vs, rfl, rfl, h0, ?_⟩
  have n2 := Nxt.rewrite (i := i) (a := l) R (Nxt.refl R) e0 s0 ef ⟨_, h0⟩ g0 (.nil : OTs X.K G H [] [] []) (fun m => nomatch m) (fun x m => nomatch m)
  exact k (.dat .non) _ .non _ _ _ [] n2 (.dat .non) (fun x m => nomatch m) (fun x m => nomatch m) q
end
end DL

namespace DL
open PySem PySem.Spec PyProof.Rows L2
/-! ### texts of data are alike only if the data are -/
def icps (i : Int) : List Nat := (toString i).toList.map Char.toNat
mutual
def txD : PyData → List Nat
  | .none => [78, 111, 110, 101]
  | .bool _ => []
  | .int i => icps i
  | .str z => 39 :: (z.cps.toList ++ [39])
  | .list l => 91 :: (txL l ++ [93])
  | .tuple l => 40 :: (txL l ++ [41])
  | .dict _ => []
def txL : List PyData → List Nat
  | [] => []
  | a :: r => txD a ++ txT r
def txT : List PyData → List Nat
  | [] => []
  | a :: r => 44 :: 32 :: (txD a ++ txT r)
end
def stepWords : List Str := ["open", "pour", "scoop", "move", "unless"]
mutual
def okJ : PyData → Bool
  | .none => true
  | .bool _ => false
  | .int _ => true
  | .str z => stepWords.contains z
  | .list l => okJs l
  | .tuple l => l.length != 1 && okJs l
  | .dict _ => false
def okJs : List PyData → Bool
  | [] => true
  | a :: r => okJ a && okJs r
end
theorem tf_cps : ∀ (ts : List Str) (k : Nat) (acc : Str), 0 < k → (textFrom k acc ts).cps.toList = acc.cps.toList ++ (ts.map fun t => 44 :: 32 :: t.cps.toList).flatten
  | [], k, acc, _ => by simp [textFrom]
  | t :: r, k, acc, h => by
    have ih := tf_cps r (k + 1) (acc ++ (if k > 0 then ", " else "" : String) ++ t) (by omega)
    rw [textFrom, ih, if_pos h, cps_toList_append, cps_toList_append]
    have : (Str.ofString ", ").cps.toList = [44, 32] := by decide
    rw [this]
    simp
theorem comma_map {xs : List Str} {r : List PyData} (h : xs.map (fun t => t.cps.toList) = r.map txD) : xs.map (fun t => 44 :: 32 :: t.cps.toList) = r.map fun a => 44 :: 32 :: txD a := by
  have := congrArg (List.map fun l : List Nat => 44 :: 32 :: l) h
  rw [List.map_map, List.map_map] at this
  exact this
theorem join_cps : ∀ (ts : List Str) (t : Str), (Str.join ", " (t :: ts)).cps.toList = t.cps.toList ++ (ts.map fun t => 44 :: 32 :: t.cps.toList).flatten
  | [], t => by rw [join_one]; simp
  | u :: r, t => by
    have : (Str.ofString ", ").cps.toList = [44, 32] := by decide
    rw [join_cons_cons, cps_toList_append, cps_toList_append, join_cps r u, this]
    simp
theorem shownAll_len : ∀ l : List PyData, (PyData.shownAll l).length = l.length
  | [] => rfl
  | a :: r => by rw [PyData.shownAll, List.length_cons, List.length_cons, shownAll_len r]
theorem txT_flat : ∀ l : List PyData, txT l = (l.map fun a => 44 :: 32 :: txD a).flatten
  | [] => rfl
  | a :: r => by rw [txT, txT_flat r]; simp
mutual
theorem shown_tx : ∀ d : PyData, okJ d = true → d.shown.cps.toList = txD d
  | .none, _ => by decide
  | .bool _, h => by cases h
  | .int i, _ => by rw [PyData.shown, txD]; exact signs_ofString _
  | .str z, h => by
    rw [PyData.shown, txD]
    have key : ∀ z ∈ stepWords, (reprText z).cps.toList = 39 :: (z.cps.toList ++ [39]) := by decide +kernel
    exact key z (by simpa [okJ] using h)
  | .list l, h => by
    have ih := shown_txs l (by simpa [okJ] using h)
    rw [PyData.shown, txD, listText]
    cases l with
    | nil => decide
    | cons a r =>
      have e1 : ((((if (0 : Nat) > 0 then ", " else "" : String) : Str))).cps.toList = [] := by decide
      rw [PyData.shownAll, textFrom, cps_toList_append, tf_cps _ _ _ (by omega), cps_toList_append, cps_toList_append, e1]
      have e2 : ("[" : Str).cps.toList = [91] := by decide
      have e3 : ("]" : Str).cps.toList = [93] := by decide
      rw [PyData.shownAll, List.map_cons] at ih
      simp only [txL, e2, e3]
      rw [txT_flat]
      have ih1 : a.shown.cps.toList = txD a := (List.cons.inj ih).1
      have ih2 := (List.cons.inj ih).2
      rw [ih1]
      have : ((PyData.shownAll r).map fun t => 44 :: 32 :: t.cps.toList) = r.map fun a => 44 :: 32 :: txD a := comma_map ih2
      rw [this]
      simp
  | .tuple l, h => by
    simp only [okJ, Bool.and_eq_true, bne_iff_ne] at h
    have ih := shown_txs l h.2
    rw [PyData.shown, txD, tupleText]
    cases l with
    | nil => decide
    | cons a r =>
      have hl : ((PyData.shownAll (a :: r)).length == 1) = false := by rw [shownAll_len]; simpa using h.1
      have e2 : ("(" : Str).cps.toList = [40] := by decide
      have e3 : (((")" : String) : Str)).cps.toList = [41] := by decide
      rw [hl]
      simp only [Bool.false_eq_true, if_false]
      rw [cps_toList_append, cps_toList_append, e2, e3, PyData.shownAll, join_cps]
      rw [PyData.shownAll, List.map_cons, List.map_cons] at ih
      rw [(List.cons.inj ih).1, comma_map (List.cons.inj ih).2, txL, txT_flat]
      simp
  | .dict _, h => by cases h
theorem shown_txs : ∀ l : List PyData, okJs l = true → (PyData.shownAll l).map (fun t => t.cps.toList) = l.map txD
  | [], _ => rfl
  | a :: r, h => by
    simp only [okJs, Bool.and_eq_true] at h
    rw [PyData.shownAll, List.map_cons, List.map_cons, shown_tx a h.1, shown_txs r h.2]
end
/-! injective -/
def isD (c : Nat) : Bool := c == 45 || (48 ≤ c && c ≤ 57)
theorem nat_digs (m : Nat) : ∀ c ∈ (Nat.toDigits 10 m).map Char.toNat, 48 ≤ c ∧ c ≤ 57 := by
  intro c hc
  obtain ⟨ch, hch, e⟩ := List.mem_map.mp hc
  have r := digit_range (Nat.isDigit_of_mem_toDigits (by decide) (by decide) hch)
  subst e
  exact r
theorem icps_ofNat (m : Nat) : icps (m : Int) = (Nat.toDigits 10 m).map Char.toNat := by
  unfold icps
  show (Nat.repr m).toList.map Char.toNat = _
  rw [Nat.toList_repr]
theorem icps_neg (m : Nat) : icps (Int.negSucc m) = 45 :: (Nat.toDigits 10 (m + 1)).map Char.toNat := by
  unfold icps
  show ("-" ++ Nat.repr (m + 1)).toList.map Char.toNat = _
  rw [String.toList_append, List.map_append, Nat.toList_repr]
  rfl
theorem icps_isD (i : Int) : ∀ c ∈ icps i, isD c = true := by
  intro c hc
  cases i with
  | ofNat m =>
    have := nat_digs m c (icps_ofNat m ▸ hc)
    simp [isD, this]
  | negSucc m =>
    rw [icps_neg] at hc
    rcases List.mem_cons.mp hc with rfl | hc
    · rfl
    · have := nat_digs _ c hc
      simp [isD, this]
theorem tw {p : Nat → Bool} : ∀ {l x : List Nat}, (∀ c ∈ l, p c = true) → (∀ c ∈ x.head?, p c = false) → (l ++ x).takeWhile p = l ∧ (l ++ x).dropWhile p = x
  | [], [], _, _ => ⟨rfl, rfl⟩
  | [], c :: r, _, h => by
    have := h c rfl
    simp [this]
  | a :: l, x, h, hx => by
    have ih := tw (l := l) (fun c m => h c (List.mem_cons_of_mem _ m)) hx
    have := h a List.mem_cons_self
    simp [this, ih]
theorem tw2 {p : Nat → Bool} {l m x y : List Nat} (hl : ∀ c ∈ l, p c = true) (hm : ∀ c ∈ m, p c = true) (hx : ∀ c ∈ x.head?, p c = false) (hy : ∀ c ∈ y.head?, p c = false) (e : l ++ x = m ++ y) : l = m ∧ x = y := by
  have a := tw hl hx
  have b := tw hm hy
  rw [e] at a
  exact ⟨a.1.symm.trans b.1, a.2.symm.trans b.2⟩
theorem toNat_inj {l m : List Char} (h : l.map Char.toNat = m.map Char.toNat) : l = m := by
  refine List.map_inj_right (fun a b e => ?_) |>.mp h
  exact Char.ext (UInt32.toNat_inj.mp e)
theorem digs_inj {m n : Nat} (h : (Nat.toDigits 10 m).map Char.toNat = (Nat.toDigits 10 n).map Char.toNat) : m = n := by
  have := congrArg (fun l => Nat.ofDigitChars 10 l 0) (toNat_inj h)
  simpa using this
theorem icps_inj {i j : Int} (h : icps i = icps j) : i = j := by
  have no : ∀ m n : Nat, ¬ icps (m : Int) = icps (Int.negSucc n) := fun m n z => by
    rw [icps_neg] at z
    have := nat_digs m 45 (by rw [← icps_ofNat, z]; exact List.mem_cons_self)
    omega
  cases i with
  | ofNat m =>
    cases j with
    | ofNat n =>
      have := digs_inj ((icps_ofNat m).symm.trans (h.trans (icps_ofNat n)))
      rw [this]
    | negSucc n => exact absurd h (no m n)
  | negSucc m =>
    cases j with
    | ofNat n => exact absurd h.symm (no n m)
    | negSucc n =>
      rw [icps_neg, icps_neg] at h
      have := digs_inj (List.cons.inj h).2
      rw [show m = n by omega]
theorem icps_ne (i : Int) : icps i ≠ [] := by
  cases i with
  | ofNat m =>
    intro h
    have := (icps_ofNat m).symm.trans h
    exact Nat.toDigits_ne_nil (List.map_eq_nil_iff.mp this)
  | negSucc m => rw [icps_neg]; simp
def Pf (x : List Nat) : Prop := ∀ c ∈ x.head?, c = 44 ∨ c = 93 ∨ c = 41
def Cl (x : List Nat) : Prop := ∃ c r, x = c :: r ∧ (c = 93 ∨ c = 41)
theorem pf_c {c : Nat} {r : List Nat} (h : c = 44 ∨ c = 93 ∨ c = 41) : Pf (c :: r) := fun d m => by
  rw [← Option.some.inj m]
  exact h
theorem Cl.pf {x : List Nat} (h : Cl x) : Pf x := by
  obtain ⟨c, r, rfl, h⟩ := h
  exact pf_c (.inr h)
theorem txT_pf {l : List PyData} {x : List Nat} (h : Cl x) : Pf (txT l ++ x) := by
  cases l with
  | nil => exact h.pf
  | cons a r => exact pf_c (.inl rfl)
def kd : PyData → Nat
  | .none => 0
  | .int _ => 1
  | .str _ => 2
  | .list _ => 3
  | .tuple _ => 4
  | _ => 5
def kh (c : Nat) : Nat := if c = 78 then 0 else if c = 39 then 2 else if c = 91 then 3 else if c = 40 then 4 else if c = 44 ∨ c = 93 ∨ c = 41 then 6 else 1
theorem tx_head {d : PyData} (h : okJ d = true) : ∃ c r, txD d = c :: r ∧ kh c = kd d := by
  cases d with
  | none => exact ⟨_, _, rfl, rfl⟩
  | bool b => cases h
  | dict l => cases h
  | str z => exact ⟨_, _, rfl, rfl⟩
  | list l => exact ⟨_, _, rfl, rfl⟩
  | tuple l => exact ⟨_, _, rfl, rfl⟩
  | int i =>
    cases e : icps i with
    | nil => exact absurd e (icps_ne i)
    | cons c r =>
      refine ⟨c, r, e, ?_⟩
      have := icps_isD i c (by rw [e]; exact List.mem_cons_self)
      simp only [isD, Bool.or_eq_true, beq_iff_eq, Bool.and_eq_true, decide_eq_true_eq] at this
      unfold kh kd
      rw [if_neg (by omega), if_neg (by omega), if_neg (by omega), if_neg (by omega), if_neg (by omega)]
theorem kd_eq {a b : PyData} {x y : List Nat} (ha : okJ a = true) (hb : okJ b = true) (e : txD a ++ x = txD b ++ y) : kd a = kd b := by
  obtain ⟨c, r, e1, k1⟩ := tx_head ha
  obtain ⟨d, s, e2, k2⟩ := tx_head hb
  rw [e1, e2] at e
  rw [← k1, ← k2, (List.cons.inj e).1]
theorem no_close {a : PyData} {x y z : List Nat} (ha : okJ a = true) (h : Cl y) (e : txD a ++ x = y) : False := by
  obtain ⟨c, r, rfl, hc⟩ := h
  obtain ⟨d, s, e1, k1⟩ := tx_head ha
  rw [e1] at e
  have := (List.cons.inj e).1
  subst this
  have : kh d = 6 := by
    unfold kh
    rw [if_neg (by omega), if_neg (by omega), if_neg (by omega), if_neg (by omega), if_pos (by omega)]
  rw [this] at k1
  cases a <;> simp [kd] at k1
mutual
theorem txD_inj : ∀ (a b : PyData) (x y : List Nat), okJ a = true → okJ b = true → Pf x → Pf y → txD a ++ x = txD b ++ y → a = b ∧ x = y
  | .none, b, x, y, ha, hb, hx, hy, e => by
    have k := kd_eq ha hb e
    cases b <;> simp [kd] at k
    exact ⟨rfl, List.append_cancel_left e⟩
  | .bool _, b, x, y, ha, hb, hx, hy, e => by cases ha
  | .dict _, b, x, y, ha, hb, hx, hy, e => by cases ha
  | .int i, b, x, y, ha, hb, hx, hy, e => by
    have k := kd_eq ha hb e
    cases b <;> simp [kd] at k
    rename_i j
    have nd : ∀ {x : List Nat}, Pf x → ∀ c ∈ x.head?, isD c = false := fun h c m => by
      rcases h c m with rfl | rfl | rfl <;> rfl
    have := tw2 (icps_isD i) (icps_isD j) (nd hx) (nd hy) e
    exact ⟨by rw [icps_inj this.1], this.2⟩
  | .str z, b, x, y, ha, hb, hx, hy, e => by
    have k := kd_eq ha hb e
    cases b <;> simp [kd] at k
    rename_i w
    have key : ∀ z ∈ stepWords, ∀ c ∈ z.cps.toList, (c != 39) = true := by decide +kernel
    have ma : z ∈ stepWords := by simpa [okJ] using ha
    have mb : w ∈ stepWords := by simpa [okJ] using hb
    simp only [txD, List.cons_append, List.append_assoc] at e
    have := tw2 (p := fun c => c != 39) (key z ma) (key w mb) (fun c m => by rw [← Option.some.inj m]; rfl) (fun c m => by rw [← Option.some.inj m]; rfl) (List.cons.inj e).2
    refine ⟨?_, (List.cons.inj this.2).2⟩
    have : z = w := by
      cases z
      cases w
      congr 1
      exact Array.toList_inj.mp this.1
    rw [this]
  | .list l, b, x, y, ha, hb, hx, hy, e => by
    have k := kd_eq ha hb e
    cases b <;> simp [kd] at k
    rename_i m
    simp only [txD, List.cons_append, List.append_assoc] at e
    have := txL_inj l m (93 :: x) (93 :: y) (by simpa [okJ] using ha) (by simpa [okJ] using hb) ⟨_, _, rfl, .inl rfl⟩ ⟨_, _, rfl, .inl rfl⟩ (List.cons.inj e).2
    exact ⟨by rw [this.1], (List.cons.inj this.2).2⟩
  | .tuple l, b, x, y, ha, hb, hx, hy, e => by
    have k := kd_eq ha hb e
    cases b <;> simp [kd] at k
    rename_i m
    simp only [txD, List.cons_append, List.append_assoc] at e
    have := txL_inj l m (41 :: x) (41 :: y) (by simp [okJ] at ha; exact ha.2) (by simp [okJ] at hb; exact hb.2) ⟨_, _, rfl, .inr rfl⟩ ⟨_, _, rfl, .inr rfl⟩ (List.cons.inj e).2
    exact ⟨by rw [this.1], (List.cons.inj this.2).2⟩
theorem txL_inj : ∀ (l m : List PyData) (x y : List Nat), okJs l = true → okJs m = true → Cl x → Cl y → txL l ++ x = txL m ++ y → l = m ∧ x = y
  | [], [], x, y, _, _, _, _, e => ⟨rfl, e⟩
  | [], b :: s, x, y, ha, hb, hx, hy, e => by
    simp only [okJs, Bool.and_eq_true] at hb
    simp only [txL, List.nil_append, List.append_assoc] at e
    exact (no_close (z := []) hb.1 hx e.symm).elim
  | a :: r, [], x, y, ha, hb, hx, hy, e => by
    simp only [okJs, Bool.and_eq_true] at ha
    simp only [txL, List.nil_append, List.append_assoc] at e
    exact (no_close (z := []) ha.1 hy e).elim
  | a :: r, b :: s, x, y, ha, hb, hx, hy, e => by
    simp only [okJs, Bool.and_eq_true] at ha hb
    simp only [txL, List.append_assoc] at e
    have h1 := txD_inj a b _ _ ha.1 hb.1 (txT_pf hx) (txT_pf hy) e
    have h2 := txT_inj r s x y ha.2 hb.2 hx hy h1.2
    exact ⟨by rw [h1.1, h2.1], h2.2⟩
theorem txT_inj : ∀ (l m : List PyData) (x y : List Nat), okJs l = true → okJs m = true → Cl x → Cl y → txT l ++ x = txT m ++ y → l = m ∧ x = y
  | [], [], x, y, _, _, _, _, e => ⟨rfl, e⟩
  | [], b :: s, x, y, ha, hb, hx, hy, e => by
    obtain ⟨c, r, rfl, hc⟩ := hx
    simp only [txT, List.nil_append, List.cons_append] at e
    have := (List.cons.inj e).1
    omega
  | a :: r, [], x, y, ha, hb, hx, hy, e => by
    obtain ⟨c, r', rfl, hc⟩ := hy
    simp only [txT, List.nil_append, List.cons_append] at e
    have := (List.cons.inj e).1
    omega
  | a :: r, b :: s, x, y, ha, hb, hx, hy, e => by
    simp only [okJs, Bool.and_eq_true] at ha hb
    simp only [txT, List.cons_append, List.append_assoc] at e
    have e := (List.cons.inj (List.cons.inj e).2).2
    have h1 := txD_inj a b _ _ ha.1 hb.1 (txT_pf hx) (txT_pf hy) e
    have h2 := txT_inj r s x y ha.2 hb.2 hx hy h1.2
    exact ⟨by rw [h1.1, h2.1], h2.2⟩
end
mutual
theorem eqv_of : ∀ a b : PyData, okJ a = true → PyData.eqv a b = true → okJ b = true → a = b
  | .none, b, _, h, hb => by cases b <;> simp [PyData.eqv] at h <;> rfl
  | .bool _, b, ha, _, _ => by cases ha
  | .dict _, b, ha, _, _ => by cases ha
  | .int i, b, _, h, hb => by cases b <;> simp [PyData.eqv, okJ] at h hb; rw [h]
  | .str i, b, _, h, hb => by cases b <;> simp [PyData.eqv] at h; rw [h]
  | .list l, b, ha, h, hb => by
    cases b <;> simp [PyData.eqv] at h
    rw [eqvs_of l _ (by simpa [okJ] using ha) h (by simpa [okJ] using hb)]
  | .tuple l, b, ha, h, hb => by
    cases b <;> simp [PyData.eqv] at h
    simp only [okJ, Bool.and_eq_true] at ha hb
    rw [eqvs_of l _ ha.2 h hb.2]
theorem eqvs_of : ∀ a b : List PyData, okJs a = true → PyData.eqvAll a b = true → okJs b = true → a = b
  | [], [], _, _, _ => rfl
  | [], b :: s, _, h, _ => by simp [PyData.eqvAll] at h
  | a :: r, [], _, h, _ => by simp [PyData.eqvAll] at h
  | a :: r, b :: s, ha, h, hb => by
    simp only [okJs, Bool.and_eq_true] at ha hb
    simp only [PyData.eqvAll, Bool.and_eq_true] at h
    rw [eqv_of a b ha.1 h.1 hb.1, eqvs_of r s ha.2 h.2 hb.2]
end
mutual
theorem eqv_self : ∀ a : PyData, okJ a = true → PyData.eqv a a = true
  | .none, _ => rfl
  | .bool _, ha => by cases ha
  | .dict _, ha => by cases ha
  | .int i, _ => by simp [PyData.eqv]
  | .str i, _ => by simp [PyData.eqv]
  | .list l, ha => by rw [PyData.eqv]; exact eqvs_self l (by simpa [okJ] using ha)
  | .tuple l, ha => by
    simp only [okJ, Bool.and_eq_true] at ha
    rw [PyData.eqv]; exact eqvs_self l ha.2
theorem eqvs_self : ∀ a : List PyData, okJs a = true → PyData.eqvAll a a = true
  | [], _ => rfl
  | a :: r, ha => by
    simp only [okJs, Bool.and_eq_true] at ha
    rw [PyData.eqvAll, eqv_self a ha.1, eqvs_self r ha.2]
    rfl
end
/-- == and the texts tell the same -/
theorem eq_texts {a b : PyData} (ha : okJ a = true) (hb : okJ b = true) : PyData.eqv a b = decide (a.shown = b.shown) := by
  by_cases h : a.shown = b.shown
  · rw [decide_eq_true h]
    have e : txD a ++ [] = txD b ++ [] := by rw [← shown_tx a ha, ← shown_tx b hb, h]
    have := (txD_inj a b [] [] ha hb (fun c m => by cases m) (fun c m => by cases m) e).1
    rw [← this]
    exact eqv_self a ha
  · rw [decide_eq_false h]
    cases z : PyData.eqv a b with
    | false => rfl
    | true => exact absurd (by rw [eqv_of a b ha z hb]) h
end DL

namespace DL
open PySem PySem.Spec PyProof.Rows L2
/-! ### == and != of an own instance with anything -/
theorem ty_looks {X : Cx} {pins : List (Addr × Obj)} {σ : L2.St} {H : Hp} {s : Shared} {x : V} {u t : Value} (I : Inv X pins σ H s) (rx : RelV x u) (ty : TyX X.K H x t) : PySem.W.Looks (model X.prog X.w) s.heap (typeOf u) t := by
  obtain ⟨P, kx, p, _⟩ := kit_of I rx ty
  exact kx.ty _ _ I.kIn p
def NeB (Q : Value → Shared → Prop) (v : Value) (s' : Shared) : Prop := ∃ z, v = .bool z ∧ Q (.bool (!z)) s'
section
variable {prog : Program} {w : World} {A : Around} {E : Value → Shared → Prop} {s : Shared} {K : PySem.W.Frag} {x C L f : Addr} {h₀ : Heap} {m : Str → Option Value} {ox : Obj} {od : Option Obj} {b tb : Value}
theorem ifBound_B {M : Model} {id : String} {name : Str} {args : List Value} {Q : Option Value → Shared → Prop} (X : K.In s.heap) (I : PySem.W.InstAt s.heap x ox C od) (hs : PySem.W.findIn K (.ref C) name = some (some (.builtin id))) (hb : ∀ v, bindSpecial (.builtin id) v = pure (.builtin id, [v]))
    (h : wpAny M A (call (.builtin id) (.ref x :: args)) (fun v => Q (some v)) E s) : wpAny M A (callSpecialIfBound? (.ref x) name args) Q E s := by
  simp only [callSpecialIfBound?, bindSpecialIfBound?]
  refine wpAny_holding (wpAny_bind (wpAny_bind (wpAny_bind (I.type.here ((PySem.W.looks_findIn X hs).here ?_)))))
  simp only [hb]
  refine wpAny_bind (wpAny_askSetting (wpAny_ite ?_))
  have fin : wpAny M A (call (.builtin id) ([.ref x] ++ args) >>= fun v => pure (some v)) Q E s := wpAny_bind (wpAny_mono h (fun v s' h' => wpAny_pure h') fun _ _ h' => h')
  split
  · exact wpAny_bind (wpAny_pure (wpAny_pure fin))
  · exact wpAny_tryCatch (wpAny_bind (wpAny_pure (wpAny_pure fin)))
theorem ne_K {Q : Value → Shared → Prop} (hu : A.units + 1 < cLine) (Fm : Fr h₀ L s.heap m) (X₀ : K.In h₀) (I : PySem.W.InstAt s.heap x ox C od) (hb : PySem.W.Looks (model prog w) s.heap (typeOf b) tb) (hn : PySem.W.notFirst K C tb = true)
    (hne : PySem.W.findIn K (.ref C) "__ne__" = some (some (.builtin "object.__ne__"))) (hm : PySem.W.mroIn K C (.type "object") = some true) (hs : PySem.W.findIn K (.ref C) "__eq__" = some (some (.ref f))) (hf : PySem.W.isFn K (.ref f) = true)
    (h : wpAny (model prog w) A.in1 (call (.ref f) [.ref x, b]) (NeB Q) E s) : wpAny (model prog w) A (richCompare .NotEq (.ref x) b) Q E s := by
  have X := X₀.keeps Fm.keep
  have hu0 : A.units < cLine := Nat.lt_of_succ_lt hu
  have inst : PySem.W.Looks (model prog w) s.heap (isInstance (.ref x) (.type "object")) true := I.type.andThen (PySem.W.looks_mroIn X hm)
  have one : wpAny (model prog w) A (tryCompare (.ref x) (cmpInfo .NotEq).2.1 b) (fun r s' => ∃ v, r = some v ∧ Q v s') E s := by
    unfold tryCompare
    refine wpAny_bind (ifBound_B X I hne (fun v => PySem.F.cmp_object.ne.bind v) ?_)
    refine wpAny_call (codeAny_call_builtin PySem.F.cmp_object.ne.plain PySem.F.cmpEntry_ne (PySem.W.check_slot PySem.F.cmpKind_ne PySem.F.cmpSplit_ne inst (PySem.F.cmpArgs_ne _ _) ?_))
    unfold Builtin.«object.__ne__»
    refine wpAny_bind (wpAny_pure ?_)
    refine wpAny_bind (wpAny_cRoomFor (by simpa [Around.in1] using hu) ?_)
    refine wpAny_bind (PySem.W.ifBound_K X I hs hf (wpAny_mono h (fun v s' hv => ?_) fun _ _ e => e))
    obtain ⟨z, rfl, q⟩ := hv
    refine wpAny_bind (m := truthy (.bool z)) (wpAny_pure ?_)
    refine wpAny_pure ?_
    exact wpAny_pure ⟨_, rfl, q⟩
  unfold richCompare
  simp only [oneThing_ref]
  refine wpAny_holding (wpAny_bind (wpAny_cRoomFor hu0 ?_))
  refine wpAny_bind (I.type.here (wpAny_bind (hb.here ?_)))
  split
  · rename_i q
    have e : PySem.W.subIn K tb (.ref C) = some false := by
      rcases Bool.or_eq_true_iff.mp hn with e | e
      · rw [beq_iff_eq.mp e] at q; simp at q
      · exact beq_iff_eq.mp e
    refine wpAny_bind ((PySem.W.looks_subIn X e).here ?_)
    simp only [Bool.false_eq_true, if_false]
    refine wpAny_bind (wpAny_mono one (fun r s' z => ?_) fun _ _ e => e)
    obtain ⟨v, rfl, hq⟩ := z
    exact wpAny_pure hq
  · refine wpAny_bind (wpAny_pure ?_)
    simp only [Bool.false_eq_true, if_false]
    refine wpAny_bind (wpAny_mono one (fun r s' z => ?_) fun _ _ e => e)
    obtain ⟨v, rfl, hq⟩ := z
    exact wpAny_pure hq
end
section
variable {X : Cx} {CX : CXT} {k : Nat} {C g : Addr} {fd : FuncData} {ps : List Str} {sp : Sp} {E : XK} {io : List Nat} {e a b : Expr} {pos p : Pos} {F : Ctr}
/-- the words of K for != of a class without an own one -/
structure NeC (K : PySem.W.Frag) (C : Addr) : Prop where
  ne : PySem.W.findIn K (.ref C) "__ne__" = some (some (.builtin "object.__ne__"))
  hm : PySem.W.mroIn K C (.type "object") = some true
def neB (K : PySem.W.Frag) (C : Addr) : Bool := decide (PySem.W.findIn K (.ref C) "__ne__" = some (some (.builtin "object.__ne__"))) && decide (PySem.W.mroIn K C (.type "object") = some true)
theorem neB_ok {K : PySem.W.Frag} (h : neB K C = true) : NeC K C := by
  unfold neB at h
  simp only [Bool.and_eq_true, decide_eq_true_eq] at h
  exact ⟨h.1, h.2⟩
def rEqA (K : PySem.W.Frag) (C : Addr) (sp : Sp) (E : XK) (neg : Bool) : R2 := fun x y H Q => ∃ a dx fs t, x = .ref a ∧ H a = some (.ins C dx fs) ∧ TyX K H y t ∧ PySem.W.notFirst K C t = true ∧ sp [.ref a, y] H (fun v H' => ∃ z, v = .bl z ∧ Q (.bl (z != neg)) H') E
theorem op_eqA (hm : Meth X.K C "__eq__" g) (F : FnG X.prog X.w X.K X.mg X.base CX k g fd ps sp) (hr : RoomG k X.A) (hb : Binds X.K fd ps []) (hx : Passes CX X E) : OpR X (compareOp .Eq) (rEqA X.K C sp E false) := by
  intro pins s σ H x y v u Q I rx ry d
  obtain ⟨a, dx, fs, t, rfl, ha, ty, nf, q⟩ := d
  cases rx
  obtain ⟨mA, J, _⟩ := ins_get I.hok ha
  obtain ⟨od, J, _⟩ := J.look
  obtain ⟨m, hF⟩ := I.fr
  show wpAny (model X.prog X.w) X.A (richCompare .Eq (.ref a) u) (EP X pins σ Q) X.xe s
  refine PySem.W.cmp_K (op := .Eq) (tb := t) hr.r.units0 hF I.ok.mod.kin J (ty_looks I ry ty) nf hm.at_ hm.fn ?_
  have ln : ([Value.ref a, u] ++ []).length = ps.length := by simpa using F.len _ _ _ _ q
  have bd := hb s [.ref a, u] I.kIn ln
  refine wpAny_call (codeAny_mono (F.run X.A X.stack s H ⟨[.ref a, u], []⟩ [.ref a, u] [.ref a, y] _ E hr I.env0 bd (.cons rfl (.cons ry .nil)) q) fun r s' hq => ?_)
  cases r with
  | error er => exact hx pins σ H s er s' I hq
  | ok fl =>
    cases fl with
    | next => exact hq.elim
    | brk => exact hq.elim
    | cont => exact hq.elim
    | ret u =>
      obtain ⟨v, H', I3, rv, z, rfl, q3⟩ := I.after hq
      cases rv
      exact ⟨.bl z, H', I3, rfl, by simpa using q3⟩
theorem op_neA (nc : NeC X.K C) (hm : Meth X.K C "__eq__" g) (F : FnG X.prog X.w X.K X.mg X.base CX k g fd ps sp) (hr : RoomG (k + 1) X.A) (hb : Binds X.K fd ps []) (hx : Passes CX X E) : OpR X (compareOp .NotEq) (rEqA X.K C sp E true) := by
  intro pins s σ H x y v u Q I rx ry d
  obtain ⟨a, dx, fs, t, rfl, ha, ty, nf, q⟩ := d
  cases rx
  obtain ⟨mA, J, _⟩ := ins_get I.hok ha
  obtain ⟨od, J, _⟩ := J.look
  obtain ⟨m, hF⟩ := I.fr
  show wpAny (model X.prog X.w) X.A (richCompare .NotEq (.ref a) u) (EP X pins σ Q) X.xe s
  refine ne_K (tb := t) (by simpa [Around.in1] using hr.one.r.units0) hF I.ok.mod.kin J (ty_looks I ry ty) nf nc.ne nc.hm hm.at_ hm.fn ?_
  have ln : ([Value.ref a, u] ++ []).length = ps.length := by simpa using F.len _ _ _ _ q
  have bd := hb s [.ref a, u] I.kIn ln
  refine wpAny_call (codeAny_mono (F.run X.A.in1 X.stack s H ⟨[.ref a, u], []⟩ [.ref a, u] [.ref a, y] _ E hr.one I.env0.in1 bd (.cons rfl (.cons ry .nil)) q) fun r s' hq => ?_)
  cases r with
  | error er => exact hx pins σ H s er s' I hq
  | ok fl =>
    cases fl with
    | next => exact hq.elim
    | brk => exact hq.elim
    | cont => exact hq.elim
    | ret u =>
      obtain ⟨v, H', I3, rv, z, rfl, q3⟩ := I.after hq
      cases rv
      exact ⟨z, rfl, .bl (!z), H', I3, rfl, by simpa using q3⟩
@[simp] def fEqA (K : PySem.W.Frag) (C : Addr) (F : Ctr) (neg : Bool) (fa fb : FO) : FV := fun ρ Q => fa ρ fun x ρ1 => fb ρ1 fun y ρ2 => ∃ ds d t, resT ρ2 x = some (.dat (.obj C ds)) ∧ resT ρ2 y = some (.dat d) ∧ DL.tyO d = some t ∧ (∀ D fs, d = .obj D fs → CIs K D) ∧ PySem.W.notFirst K C t = true ∧
  F [.dat (.obj C ds), .dat d] fun r _ => ∃ z, r = .dat (.bl z) ∧ Q (.bl (z != neg)) ρ2
theorem dv_eqA {K : PySem.W.Frag} {E : XK} {neg : Bool} {ta tb : TE} {fa fb : FO} (ha : DO K io ta fa) (hb : DO K io tb fb) : DV K io (tOp (rEqA K C (spD K F) E neg) ta tb) (fEqA K C F neg fa fb) := by
  intro B G H σ ρ fp Qd Q hB R hf kk
  refine ha B G H σ ρ fp _ _ hB R hf fun x ρ1 v1 G1 H1 fp1 n1 o1 hf => ?_
  refine hb B G1 H1 σ ρ1 fp1 _ _ hB n1.rp hf fun y ρ2 v2 G2 H2 fp2 n2 o2 ⟨ds, d, t, e1, e2, et, hc, nf, hf⟩ => ?_
  obtain ⟨f, ot, _⟩ := (o1.next n2).tree n2.rp e1
  obtain ⟨f2, ot2, _⟩ := o2.tree n2.rp e2
  have rq := ot.dat_inv.1
  have rq2 := ot2.dat_inv.1
  obtain ⟨a, dx, fs, ev, ga, _⟩ := rq.obj_inv
  subst ev
  refine ⟨a, dx, fs, t, rfl, n2.rp.co.sub _ _ ga, (rq2.mono n2.rp.co.sub).tyO et hc, nf, ?_⟩
  refine spD_data (ds := [.obj C ds, d]) n2.rp (.cons rq (.cons rq2 .nil)) hf fun r as' v G' H' fr n3 ot2 s1 s2 ⟨z, er, q2⟩ => ?_
  have hv : v = .bl z := by
    rw [er] at ot2
    exact ot2.dat_inv.1.bl_inv
  subst hv
  exact ⟨z, rfl, kk (.bl (z != neg)) ρ2 _ G' H' fp2 ((n1.trans n2).trans n3) (.bl _) q2⟩
theorem p_eqA {fa fb : FO} {K : PySem.W.Frag} (hK : X.K = K) (h : Hme_ X.prog X.w X.K X.mg X.base C "__eq__" ps k F) (hr : RoomG k X.A) (ha : PDo X io a fa) (hb : PDo X io b fb) : PDv X io (.Compare a [.Eq] [b] pos) (fEqA K C F false fa fb) := by
  subst hK
  obtain ⟨g, fd, c, hmm, hbb, hF⟩ := h
  obtain ⟨ta, a1, a2⟩ := ha
  obtain ⟨tb, b1, b2⟩ := hb
  exact ⟨_, pe_cmpR (op_eqA (E := fun _ _ _ => False) hmm hF hr hbb pass0) a1 b1 (nomark _), dv_eqA a2 b2⟩
theorem q_eqA {fa fb : FO} {K : PySem.W.Frag} (hK : X.K = K) (h : Hme_ X.prog X.w X.K X.mg X.base C "__eq__" ps k F) (hr : RoomG k X.A) (ha : PDo X io a fa) (hb : PDo X io b fb) : PDt X io (.Compare a [.Eq] [b] pos) (fTst (fEqA K C F false fa fb)) := by
  subst hK
  obtain ⟨g, fd, c, hmm, hbb, hF⟩ := h
  obtain ⟨ta, a1, a2⟩ := ha
  obtain ⟨tb, b1, b2⟩ := hb
  exact ⟨_, pt_cmpR (op_eqA (E := fun _ _ _ => False) hmm hF hr hbb pass0) a1 b1 (nomark _), dt_T (dv_eqA a2 b2)⟩
theorem p_neA {fa fb : FO} {K : PySem.W.Frag} (hK : X.K = K) (nc : NeC K C) (h : Hme_ X.prog X.w X.K X.mg X.base C "__eq__" ps k F) (hr : RoomG (k + 1) X.A) (ha : PDo X io a fa) (hb : PDo X io b fb) : PDv X io (.Compare a [.NotEq] [b] pos) (fEqA K C F true fa fb) := by
  subst hK
  obtain ⟨g, fd, c, hmm, hbb, hF⟩ := h
  obtain ⟨ta, a1, a2⟩ := ha
  obtain ⟨tb, b1, b2⟩ := hb
  exact ⟨_, pe_cmpR (op_neA (E := fun _ _ _ => False) nc hmm hF hr hbb pass0) a1 b1 (nomark _), dv_eqA a2 b2⟩
theorem q_neA {fa fb : FO} {K : PySem.W.Frag} (hK : X.K = K) (nc : NeC K C) (h : Hme_ X.prog X.w X.K X.mg X.base C "__eq__" ps k F) (hr : RoomG (k + 1) X.A) (ha : PDo X io a fa) (hb : PDo X io b fb) : PDt X io (.Compare a [.NotEq] [b] pos) (fTst (fEqA K C F true fa fb)) := by
  subst hK
  obtain ⟨g, fd, c, hmm, hbb, hF⟩ := h
  obtain ⟨ta, a1, a2⟩ := ha
  obtain ⟨tb, b1, b2⟩ := hb
  exact ⟨_, pt_cmpR (op_neA (E := fun _ _ _ => False) nc hmm hF hr hbb pass0) a1 b1 (nomark _), dt_T (dv_eqA a2 b2)⟩
theorem nf_own {K : PySem.W.Frag} : PySem.W.notFirst K C (.ref C) = true := by simp [PySem.W.notFirst]
theorem nf_ty {K : PySem.W.Frag} {T : String} (h : (PySem.fastBuiltinMro T).map (·.all fun v => match v with | .type _ => true | _ => false) = some true) : PySem.W.notFirst K C (.type T) = true := by
  unfold PySem.W.notFirst PySem.W.subIn
  cases e : PySem.fastBuiltinMro T with
  | none => rw [e] at h; cases h
  | some l =>
    rw [e] at h
    have h := Option.some.inj h
    have : l.contains (Value.ref C) = false := by
      rw [Bool.eq_false_iff]
      intro z
      have := List.all_eq_true.mp h _ (List.contains_iff_mem.mp z)
      cases this
    have e2 : Option.map (fun x => x.contains (Value.ref C)) (PySem.fastBuiltinMro T) = some false := by rw [e, Option.map_some, this]
    exact Bool.or_eq_true_iff.mpr (.inr (by show (Option.map (fun x => x.contains (Value.ref C)) (PySem.fastBuiltinMro T) == some false) = true; rw [e2]; rfl))
theorem nf_none {K : PySem.W.Frag} : PySem.W.notFirst K C (.type "NoneType") = true := nf_ty (by decide +kernel)
theorem nf_str {K : PySem.W.Frag} : PySem.W.notFirst K C (.type "str") = true := nf_ty (by decide +kernel)
theorem nf_int {K : PySem.W.Frag} : PySem.W.notFirst K C (.type "int") = true := nf_ty (by decide +kernel)
theorem nf_list {K : PySem.W.Frag} : PySem.W.notFirst K C (.type "list") = true := nf_ty (by decide +kernel)
theorem nf_tuple {K : PySem.W.Frag} : PySem.W.notFirst K C (.type "tuple") = true := nf_ty (by decide +kernel)
end
end DL

namespace DL
open PySem PySem.Spec PyProof.Rows L2
/-! ### own instances: o[e] by an own __getitem__; methods, by names too, that end or raise; what stands around them -/
/-- the method ends or raises -/
def HmeB (P : Program) (w : World) (K : PySem.W.Frag) (mg : Str → Option Value) (base : Heap) (C : Addr) (m : Str) (ps : List Str) (k : Nat) (F : Ctr) (Fx : XCtr) : Prop :=
  ∃ f fd, Cls K C ∧ Meth K C m f ∧ Binds K fd ps [] ∧ FnG P w K mg base (L2.CX P w) k f fd ps (spB K F Fx)
/-- .. with names -/
def HmeBK (P : Program) (w : World) (K : PySem.W.Frag) (mg : Str → Option Value) (base : Heap) (C : Addr) (m : Str) (ps ks : List Str) (k : Nat) (F : Ctr) (Fx : XCtr) : Prop :=
  ∃ f fd, Cls K C ∧ Meth K C m f ∧ BndI K fd ps ks ∧ FnG P w K mg base (L2.CX P w) k f fd ps (spB K F Fx)
/-- the method by names -/
def HmeK (P : Program) (w : World) (K : PySem.W.Frag) (mg : Str → Option Value) (base : Heap) (C : Addr) (m : Str) (ps ks : List Str) (k : Nat) (F : Ctr) : Prop :=
  ∃ f fd, Cls K C ∧ Meth K C m f ∧ BndI K fd ps ks ∧ FnG P w K mg base CX0 k f fd ps (spD K F)
theorem spB_data {K : PySem.W.Frag} {B : Bs} {σ : L2.St} {G H : Hp} {ρ : Rho} {fp : Nat → List Addr} {W : WX} {Wd : WD} (R : Rp K B G H σ ρ fp) {vs : List V} {ds : List DD} (rq : RqA K G vs ds) {F : Ctr} {Fx : XCtr} {Qd : SV → List SV → Prop} {Q : VK}
    (hF : F (ds.map .dat) Qd ∨ Fx (ds.map .dat) fun C d _ => Wd C d ρ) (sx : SimX K B Wd W)
    (k : ∀ r as' v G' H' fr, Nxt K B σ G H fp G' H' ρ fp → OT K G' H' v r fr → (∀ a ∈ fr, ¬ In fp a) → (∀ a ∈ fr, H a = none) → Qd r as' → Q v H') : spB K F Fx vs H Q (WE W σ) := by
  rcases hF with hF | hF
  · exact .inl (spD_data R rq hF k)
  · exact .inr (spE_data R rq hF sx)
section
variable {X : Cx} {W : WX} {k n : Nat} {C g f : Addr} {fd : FuncData} {ps ks : List Str} {sp : Sp} {E : L2.St → XK} {x m : Str} {e o : Expr} {es : List Expr} {kws : List Keyword} {pos p pn apos : Pos} {ta tb : TE} {t tk : TA} {CX : CXT} {io : List Nat} {F : Ctr} {Fx : XCtr}
def tGetS (C : Addr) (sp : Sp) (E : L2.St → XK) (ta tb : TE) : TE := fun σ H Q => ta σ H fun y H1 => tb σ H1 fun z H2 => ∃ a dx fs, y = .ref a ∧ H2 a = some (.ins C dx fs) ∧ sp [.ref a, z] H2 Q (E σ)
theorem pe_getS (ha : PE X o ta) (hb' : PE X e tb) (hm : Meth X.K C "__getitem__" g) (hi : PySem.W.fnIn X.K g = true) (F : FnG X.prog X.w X.K X.mg X.base CX k g fd ps sp) (hr : RoomG (k + 1) X.A) (hb : Binds X.K fd ps []) (hx : ∀ σ, PassesAt CX X σ (E σ))
    (hsl : ∀ x i, subscripted e true (.ref x) i = runValue (.builtin "lifetime.subscript" ⟨[.ref x, i], []⟩)) : PE X (.Subscript o e pos) (tGetS C sp E ta tb) := by
  refine ⟨fun pins s σ H Q I h => ?_⟩
  refine Subscript_ (thn (ha.run pins s σ H _ I h) fun v s1 ⟨y, H1, I1, ry, q⟩ => thn (hb'.run pins s1 σ H1 _ I1 q) fun u s2 ⟨z, H2, I2, rz, a, dx, fs, ey, hi2, q2⟩ => ?_)
  subst ey
  cases ry
  obtain ⟨mA, J, _⟩ := ins_get I2.hok hi2
  obtain ⟨od, J, _⟩ := J.look
  obtain ⟨m, hF⟩ := I2.fr
  refine PySem.W.sub_K hF I2.ok.mod.kin J hm.at_ hi hm.fn ?_ (hsl _ _)
  have ln : ([Value.ref a, u] ++ []).length = ps.length := by simpa using F.len _ _ _ _ q2
  have bd := hb s2 [.ref a, u] I2.kIn ln
  refine wpAny_call (codeAny_mono (F.run X.A.in1 X.stack s2 H2 ⟨[.ref a, u], []⟩ [.ref a, u] [.ref a, z] _ _ hr.one I2.env0.in1 bd (.cons rfl (.cons rz .nil)) q2) fun r s' hq => ?_)
  cases r with
  | error er => exact hx σ pins H2 s2 er s' I2 hq
  | ok fl =>
    cases fl with
    | ret u => exact I2.after hq
    | next => exact hq.elim
    | brk => exact hq.elim
    | cont => exact hq.elim
def tMethKS (C : Addr) (m : Str) (n : Nat) (sp : Sp) (E : L2.St → XK) (ta : TE) (t : TA) : TE := fun σ H Q => ta σ H fun y H1 => ∃ a dx fs, y = .ref a ∧ H1 a = some (.ins C dx fs) ∧ fs.lookup m = none ∧ t σ H1 fun vs H2 => vs.length = n ∧ sp (.ref a :: vs) H2 Q (E σ)
theorem pe_methKS {pl : Sem Bool} (he : PE X o ta) (c : Cls X.K C) (hm : Meth X.K C m f) (F : FnG X.prog X.w X.K X.mg X.base CX k f fd ps sp) (hr : RoomG k X.A) (hb : BndI X.K fd ps ks) (hx : ∀ σ, PassesAt CX X σ (E σ)) (hkw : PK X kws tk)
    (hall : (backToKw pos (keywordEach kws X.env)).all (·.1.isSome) = true) (hks : (backToKw pos (keywordEach kws X.env)).filterMap (·.1) = ks)
    (hpl : ((backTo pos (starEach [] X.env)).any (·.1) || (backToKw pos (keywordEach kws X.env)).any (·.1.isNone)) = false)
    (ht : eval (.Call (.Attribute o m apos) [] kws pos) X.env = (do
      let ov ← eval o X.env
      standAt apos.atName
      let (f, first) ← holding [ov] (getMethod ov m pl)
      callWith pos f first (backTo pos (starEach [] X.env)) (backToKw pos (keywordEach kws X.env)))) : PE X (.Call (.Attribute o m apos) [] kws pos) (tMethKS C m ks.length sp E ta tk) := by
  refine ⟨fun pins s σ H Q I h => PySem.W.methodCall_KW (pl := pl) (thn (he.run pins s σ H _ I h) fun u s1 ⟨y, H1, I1, ry, a, dx, fs, ey, hi, hl, q⟩ => ?_) ht⟩
  subst ey
  cases ry
  refine getmeth_ok I1 hi c hm hl (PySem.W.callWith_KW0 (first := [.ref a]) (h₀ := X.base) I1.ok.mod.kin hm.kp hall (thn (hkw.run pos pins s1 σ H1 _ I1 q) fun ws s2 ⟨zs, H2, I2, rz, hn, q2⟩ => ⟨I2.kIn, ?_⟩) hpl)
  rw [hks]
  have rs : Vals (V.ref a :: zs) (Value.ref a :: ws) := .cons rfl rz
  have ln := F.len _ _ _ _ q2
  rw [rs.length] at ln
  have bd := hb s2 [.ref a] ws I2.kIn (by rw [← hn, rz.length]) (by simpa [Nat.add_comm] using ln)
  refine wpAny_call (codeAny_mono (F.run X.A X.stack s2 H2 ⟨[.ref a], ks.zip ws⟩ (.ref a :: ws) (.ref a :: zs) Q (E σ) hr I2.env0 bd rs q2) fun r s' hq => ?_)
  cases r with
  | error er => exact hx σ pins H2 s2 er s' I2 hq
  | ok fl =>
    cases fl with
    | ret u => exact I2.after hq
    | next => exact hq.elim
    | brk => exact hq.elim
    | cont => exact hq.elim
/-! by data -/
@[simp] def fMethB (C : Addr) (m : Str) (F : Ctr) (Fx : XCtr) (fo : FO) (fd : FDs) : FEx := fun Wd ρ Q => fo ρ fun z ρ1 => ∃ ds, resT ρ1 z = some (.dat (.obj C ds)) ∧ ds.lookup m = none ∧ fd ρ1 fun es ρ2 => (F (.dat (.obj C ds) :: es.map .dat) (fun r _ => Q r ρ2) ∨ Fx (.dat (.obj C ds) :: es.map .dat) fun Cx d _ => Wd Cx d ρ2)
theorem de_methB {K : PySem.W.Frag} {fo : FO} {fd : FDs} {to : TE} {t : TA} (o2 : DO K io to fo) (a2 : DAd K io t fd) : DEx K io W (tMethS C m (spB K F Fx) (WE W) to t) (fMethB C m F Fx fo fd) := by
  intro B G H σ ρ fp Qd Q Wd hB R hf sx kk
  refine o2 B G H σ ρ fp _ _ hB R hf fun z ρ1 v G1 H1 fp1 n1 o1 ⟨ds, e1, hl, hf⟩ => ?_
  obtain ⟨f, ot, _⟩ := o1.tree n1.rp e1
  have rq := ot.dat_inv.1
  obtain ⟨a, dx, fs, ev, ga, rf⟩ := rq.obj_inv
  subst ev
  refine ⟨a, dx, fs, rfl, n1.rp.co.sub _ _ ga, rf.none hl, ?_⟩
  refine a2 B G1 H1 σ ρ1 fp1 _ _ hB n1.rp hf fun es ρ2 vs G2 H2 fp2 n2 rs q => ?_
  refine spB_data (ds := .obj C ds :: es) n2.rp (.cons (rq.mono n2.st.ex) rs) q sx fun r as' v G' H' fr n3 ot2 s1 s2 q2 => ?_
  exact kk r ρ2 v G' H' fp2 fr ((n1.trans n2).trans n3) ot2 s1 (fun b m => by
    by_cases z : In fp b
    · exact .inr z
    · exact .inl ((n1.trans n2).st.fresh z (s2 b m))) q2
theorem ex_methB {fo : FO} {fd' : FDs} {pl : Sem Bool} (tk : Takes X W) (h : HmeB X.prog X.w X.K X.mg X.base C m ps k F Fx) (hr : RoomG k X.A) (ho : PDo X io o fo) (ha : PDpa X io (e :: es) fd')
    (hst : starEach (e :: es) X.env = (false, eval e X.env) :: starEach es X.env := by rfl) (hpl : (backTo pos (starEach es X.env)).any (·.1) = false := by rfl)
    (ht : eval (.Call (.Attribute o m apos) (e :: es) [] pos) X.env = (do
      let ov ← eval o X.env
      standAt apos.atName
      let (f, first) ← holding [ov] (getMethod ov m pl)
      callWith pos f first (backTo pos (starEach (e :: es) X.env)) (backToKw pos (keywordEach [] X.env))) := by rfl) : PDex X W io (.Call (.Attribute o m apos) (e :: es) [] pos) (fMethB C m F Fx fo fd') := by
  obtain ⟨g, fd, c, hm, hb, hF⟩ := h
  obtain ⟨to, o1, o2⟩ := ho
  obtain ⟨t, a1, a2⟩ := ha
  exact ⟨_, pe_methGS (E := WE W) o1 c hm hF hr hb (fun σ => passAt tk σ) a1 hst hpl ht, de_methB o2 a2⟩
theorem da_len {K : PySem.W.Frag} {fd : FDs} {t : TA} {n : Nat} (hn : ∀ ρ Q, fd ρ Q → fd ρ fun es ρ1 => es.length = n ∧ Q es ρ1) (a2 : DAd K io t fd) : DAd K io (fun σ H Q => t σ H fun vs H2 => vs.length = n ∧ Q vs H2) fd := by
  intro B G H σ ρ fp Qd Q hB R hf k
  exact a2 B G H σ ρ fp _ _ hB R (hn _ _ hf) fun es ρ' vs G' H' fp' n1 rs ⟨hl, q⟩ => ⟨by rw [rs.length]; exact hl, k es ρ' vs G' H' fp' n1 rs q⟩
theorem ex_methK {fo : FO} {fd' : FDs} {pl : Sem Bool} (tk : Takes X W) (h : HmeBK X.prog X.w X.K X.mg X.base C m ps ks k F Fx) (hr : RoomG k X.A) (ho : PDo X io o fo) (ha : PDkw X io kws fd') (hn : ∀ ρ Q, fd' ρ Q → fd' ρ fun es ρ1 => es.length = ks.length ∧ Q es ρ1)
    (hall : (backToKw pos (keywordEach kws X.env)).all (·.1.isSome) = true := by rfl) (hks : (backToKw pos (keywordEach kws X.env)).filterMap (·.1) = ks := by rfl)
    (hpl : ((backTo pos (starEach [] X.env)).any (·.1) || (backToKw pos (keywordEach kws X.env)).any (·.1.isNone)) = false := by rfl)
    (ht : eval (.Call (.Attribute o m apos) [] kws pos) X.env = (do
      let ov ← eval o X.env
      standAt apos.atName
      let (f, first) ← holding [ov] (getMethod ov m pl)
      callWith pos f first (backTo pos (starEach [] X.env)) (backToKw pos (keywordEach kws X.env))) := by rfl) : PDex X W io (.Call (.Attribute o m apos) [] kws pos) (fMethB C m F Fx fo fd') := by
  obtain ⟨g, fd, c, hm, hb, hF⟩ := h
  obtain ⟨to, o1, o2⟩ := ho
  obtain ⟨t, a1, a2⟩ := ha
  exact ⟨_, pe_methKS (E := WE W) o1 c hm hF hr hb (fun σ => passAt tk σ) a1 hall hks hpl ht, de_methB o2 (da_len hn a2)⟩
/-- o[e] -/
@[simp] def fGetB (C : Addr) (F : Ctr) (Fx : XCtr) (fo : FO) (fe : FO) : FEx := fun Wd ρ Q => fo ρ fun z ρ1 => fe ρ1 fun y ρ2 => ∃ ds d, resT ρ2 z = some (.dat (.obj C ds)) ∧ resT ρ2 y = some (.dat d) ∧ (F [.dat (.obj C ds), .dat d] (fun r _ => Q r ρ2) ∨ Fx [.dat (.obj C ds), .dat d] fun Cx d _ => Wd Cx d ρ2)
/-- the words for o[e] -/
def GetI (K : PySem.W.Frag) (C : Addr) : Prop := ∀ g, Meth K C "__getitem__" g → PySem.W.fnIn K g = true
theorem ex_get {fo fe : FO} (tk : Takes X W) (h : HmeB X.prog X.w X.K X.mg X.base C "__getitem__" ps k F Fx) (gi : GetI X.K C) (hr : RoomG (k + 1) X.A) (ho : PDo X io o fo) (ha : PDo X io e fe)
    (hsl : ∀ x i, subscripted e true (.ref x) i = runValue (.builtin "lifetime.subscript" ⟨[.ref x, i], []⟩) := by exact fun _ _ => rfl) : PDex X W io (.Subscript o e pos) (fGetB C F Fx fo fe) := by
  obtain ⟨g, fd, c, hm, hb, hF⟩ := h
  obtain ⟨to, o1, o2⟩ := ho
  obtain ⟨t, a1, a2⟩ := ha
  refine ⟨_, pe_getS (E := WE W) o1 a1 hm (gi g hm) hF hr hb (fun σ => passAt tk σ) hsl, fun B G H σ ρ fp Qd Q Wd hB R hf sx kk => ?_⟩
  refine o2 B G H σ ρ fp _ _ hB R hf fun z ρ1 v G1 H1 fp1 n1 o1 hf => ?_
  refine a2 B G1 H1 σ ρ1 fp1 _ _ hB n1.rp hf fun y ρ2 u G2 H2 fp2 n2 o2 ⟨ds, d, e1, e2, q⟩ => ?_
  obtain ⟨f, ot, _⟩ := (o1.next n2).tree n2.rp e1
  obtain ⟨f2, ot2, _⟩ := o2.tree n2.rp e2
  have rq := ot.dat_inv.1
  have rq2 := ot2.dat_inv.1
  obtain ⟨a, dx, fs, ev, ga, rf⟩ := rq.obj_inv
  subst ev
  refine ⟨a, dx, fs, rfl, n2.rp.co.sub _ _ ga, ?_⟩
  refine spB_data (ds := [.obj C ds, d]) n2.rp (.cons rq (.cons rq2 .nil)) q sx fun r as' v G' H' fr n3 ot2 s1 s2 q2 => ?_
  exact kk r ρ2 v G' H' fp2 fr ((n1.trans n2).trans n3) ot2 s1 (fun b m => by
    by_cases z : In fp b
    · exact .inr z
    · exact .inl ((n1.trans n2).st.fresh z (s2 b m))) q2
/-- .. where it ends -/
@[simp] def fGet (C : Addr) (F : Ctr) (fo fe : FO) : FE := fun ρ Q => fo ρ fun z ρ1 => fe ρ1 fun y ρ2 => ∃ ds d, resT ρ2 z = some (.dat (.obj C ds)) ∧ resT ρ2 y = some (.dat d) ∧ F [.dat (.obj C ds), .dat d] fun r _ => Q r ρ2
theorem e_get {fo fe : FO} (h : Hme_ X.prog X.w X.K X.mg X.base C "__getitem__" ps k F) (gi : GetI X.K C) (hr : RoomG (k + 1) X.A) (ho : PDo X io o fo) (ha : PDo X io e fe)
    (hsl : ∀ x i, subscripted e true (.ref x) i = runValue (.builtin "lifetime.subscript" ⟨[.ref x, i], []⟩) := by exact fun _ _ => rfl) : PDe X io (.Subscript o e pos) (fGet C F fo fe) := by
  obtain ⟨g, fd, c, hm, hb, hF⟩ := h
  obtain ⟨to, o1, o2⟩ := ho
  obtain ⟨t, a1, a2⟩ := ha
  refine ⟨_, pe_getS (CX := CX0) (E := fun _ _ _ _ => False) o1 a1 hm (gi g hm) hF hr hb (fun σ pins H s er s' I z => z.elim) hsl, fun B G H σ ρ fp Qd Q hB R hf kk => ?_⟩
  refine o2 B G H σ ρ fp _ _ hB R hf fun z ρ1 v G1 H1 fp1 n1 o1 hf => ?_
  refine a2 B G1 H1 σ ρ1 fp1 _ _ hB n1.rp hf fun y ρ2 u G2 H2 fp2 n2 o2 ⟨ds, d, e1, e2, q⟩ => ?_
  obtain ⟨f, ot, _⟩ := (o1.next n2).tree n2.rp e1
  obtain ⟨f2, ot2, _⟩ := o2.tree n2.rp e2
  have rq := ot.dat_inv.1
  have rq2 := ot2.dat_inv.1
  obtain ⟨a, dx, fs, ev, ga, rf⟩ := rq.obj_inv
  subst ev
  refine ⟨a, dx, fs, rfl, n2.rp.co.sub _ _ ga, ?_⟩
  refine spD_data (ds := [.obj C ds, d]) n2.rp (.cons rq (.cons rq2 .nil)) q fun r as' v G' H' fr n3 ot2 s1 s2 q2 => ?_
  exact kk r ρ2 v G' H' fp2 fr ((n1.trans n2).trans n3) ot2 s1 (fun b m => by
    by_cases z : In fp b
    · exact .inr z
    · exact .inl ((n1.trans n2).st.fresh z (s2 b m))) q2
/-- e.f, a property, e may raise -/
@[simp] def fPropX (C : Addr) (F : Ctr) (fe : FEx) : FEx := fun Wd ρ Q => fe Wd ρ fun t ρ1 => ∃ ds, t.data = .obj C ds ∧ F [.dat (.obj C ds)] fun r _ => Q r ρ1
theorem ex_prop {x : Str} {fe : FEx} (h : Hp_ X.prog X.w X.K X.mg X.base C x k F) (hr : RoomG (k + 1) X.A) (ho : PDex X W io e fe) (hx : ∀ E, Passes CX0 X.nox E := by exact fun _ => pass0)
    (hab : attributeBase e x X.env (eval e X.env) = eval e X.env := by rfl) : PDex X W io (.Attribute e x pos) (fPropX C F fe) := by
  obtain ⟨p, g, fd, hc, hp, hb, hF⟩ := h
  obtain ⟨ta, a1, a2⟩ := ho
  refine ⟨_, pe_propG a1 hc hp hF hr hb (hx (fun _ _ _ => False)) hab, fun B G H σ ρ fp Qd Q Wd hB R hf sx k => ?_⟩
  refine a2 B G H σ ρ fp _ _ Wd hB R hf sx fun t ρ1 v G1 H1 fp1 fr1 n0 ot t1 t2 ⟨ds, e1, q⟩ => ?_
  obtain ⟨n1, rq⟩ := Nxt.sealed R n0 ot t1 t2
  rw [e1] at rq
  obtain ⟨a, dx, fs, ev, ga, _⟩ := rq.obj_inv
  subst ev
  refine ⟨a, dx, fs, rfl, n1.rp.co.sub _ _ ga, spD_data (ds := [.obj C ds]) n1.rp (.cons rq .nil) q fun r as' v G' H' fr n2 ot2 s1 s2 q2 => ?_⟩
  exact k r ρ1 v G' H' fp1 fr (n1.trans n2) ot2 s1 (fun b m => by
    by_cases z : In fp b
    · exact .inr z
    · exact .inl (n1.st.fresh z (s2 b m))) q2
/-- [e], e may raise -/
@[simp] def fLst1X (fe : FEx) : FEx := fun Wd ρ Q => fe Wd ρ fun t ρ1 => Q (.own [t]) ρ1
theorem ex_lst1 {fe : FEx} (h : PDex X W io e fe) (hs : starEach [e] X.env = (false, eval e X.env) :: starEach [] X.env := by rfl) : PDex X W io (.List [e] pos) (fLst1X fe) := by
  obtain ⟨_, a1, a2⟩ := h
  refine ⟨_, pe_lst (pa_cons a1 pa_nil hs), fun B G H σ ρ fp Qd Q Wd hB R hf sx k => ?_⟩
  refine a2 B G H σ ρ fp _ _ Wd hB R hf sx fun t ρ1 v G1 H1 fp1 f1 n1 ot t1 t1' q => ?_
  refine ⟨by simp [sizeLine], new_own R n1 (fr := f1 ++ []) (.cons ot .nil (fun a _ m => nomatch m)) (fun a m => t1 a (by simpa using m)) (fun a m => t1' a (by simpa using m)) fun v G'' H'' fp'' fr' n' ot' u1 u2 => k _ _ _ _ _ _ _ n' ot' u1 u2 q⟩
theorem u65 {k : Nat} {A : Around} (r : RoomG (k + 1) A) : A.units + 65 < cLine := by have := r.r.un; omega
/-- l.index(e): the first place of an equal one -/
@[simp] def fIndex (fo fe : FO) : FV := fun ρ Q => fo ρ fun z ρ1 => (∃ l, resT ρ1 z = some (.dat (.lst l))) ∧ fe ρ1 fun y ρ2 => ∃ l d j, resT ρ2 z = some (.dat (.lst l)) ∧ resT ρ2 y = some (.dat d) ∧ okD (.lst l) = true ∧ okD d = true ∧
  (∃ c, l[j]? = some c ∧ eqD c d = true) ∧ (∀ (m : Nat) c, m < j → l[m]? = some c → eqD c d = false) ∧ Q (.int (j : Nat)) ρ2
theorem pys_at : ∀ {l : List DD} {j : Nat}, (DD.pys l)[j]? = l[j]?.map DD.py
  | [], j => by simp [DD.pys]
  | d :: r, 0 => by simp [DD.pys]
  | d :: r, j + 1 => by simp [DD.pys, pys_at (l := r) (j := j)]
theorem v_index {fo fe : FO} (ho : PDo X io o fo) (ha : PDo X io e fe) (hs : starEach (e :: []) X.env = (false, eval e X.env) :: starEach [] X.env := by rfl)
    (hbm : ∀ to t, PE X o to → PA X [e] t → PE X (.Call (.Attribute o "index" apos) [e] [] pos) (tBM X.K "list" (rIndexD X.K) to t)) : PDv X io (.Call (.Attribute o "index" apos) [e] [] pos) (fIndex fo fe) := by
  obtain ⟨to, o1, o2⟩ := ho
  obtain ⟨ta, a1, a2⟩ := ha
  refine ⟨_, hbm _ _ o1 (pa_cons a1 pa_nil hs), fun B G H σ ρ fp Qd Q hB R hf kk => ?_⟩
  refine o2 B G H σ ρ fp _ _ hB R hf fun z ρ1 v G1 H1 fp1 n1 oz ⟨⟨l0, e0⟩, hf⟩ => ?_
  obtain ⟨f0, ot0, _⟩ := oz.tree n1.rp e0
  obtain ⟨a, xs0, ev, h0, r0⟩ := ot0.dat_inv.1.lst_inv
  subst ev
  have g0 : Rd H1 a (.lst xs0) := by
    rcases h0 with h0 | ⟨u, h0⟩
    · exact .inl (n1.rp.co.sub _ _ h0)
    · exact .inr ⟨u, n1.rp.co.sub _ _ h0⟩
  refine ⟨.inl ⟨rfl, _, .inl g0⟩, ?_⟩
  refine a2 B G1 H1 σ ρ1 fp1 _ _ hB n1.rp hf fun y ρ2 u G2 H2 fp2 n2 oy ⟨l, d, j, e1, e2, k1, k2, ⟨c, hc, hcd⟩, hno, q⟩ => ?_
  obtain ⟨f, ot, _⟩ := (oz.next n2).tree n2.rp e1
  obtain ⟨f2, ot2, _⟩ := oy.tree n2.rp e2
  have rq := (ot.dat_inv.1).mono n2.rp.co.sub
  have rq2 := (ot2.dat_inv.1).mono n2.rp.co.sub
  refine ⟨a, u, d.py, DD.pys l, j, c.py, rfl, rfl, rq.dp (okD_of k1).1, rq2.dp (okD_of k2).1, (okD_of k1).2, (okD_of k2).2, by rw [pys_at, hc]; rfl, hcd, fun m z' hm hz => ?_, ?_⟩
  · rw [pys_at] at hz
    cases h : l[m]? with
    | none => rw [h] at hz; cases hz
    | some c' =>
      rw [h] at hz
      obtain rfl : c'.py = z' := Option.some.inj hz
      exact hno m c' hm h
  · exact kk (.int (j : Nat)) ρ2 _ G2 H2 fp2 (n1.trans n2) (.int _) q
end
section
variable {K : PySem.W.Frag} {f C : Addr} {fd : FuncData} {x qual : Str} {params : Arguments} {body : List Stmt} {scope : Scope}
theorem getI_of (F : FunD K x qual params body scope [] [] f fd) (m : Meth K C "__getitem__" f) : GetI K C := fun g hg => by
  have e := hg.at_.symm.trans m.at_
  injection e with e
  injection e with e
  injection e with e
  subst e
  obtain ⟨oc, od, dV, kV, doc, pm, an, cdv, ct, osl, rfl, lk, hcd, hD, hK⟩ := F.ex
  unfold PySem.W.fnIn
  rw [lk]
end
end DL

namespace DL
open PySem PySem.Spec PyProof.Rows L2
/-! ### texts -/
section
variable {X : Cx} {io : List Nat} {o e a b : Expr} {pos apos p : Pos}
theorem strs_rq {K : PySem.W.Frag} {G : Hp} : ∀ ys : List Str, RqA K G (ys.map V.str) (ys.map DD.str)
  | [] => .nil
  | y :: r => .cons (.str y) (strs_rq r)
theorem strs_ots {K : PySem.W.Frag} {G H : Hp} (ys : List Str) : OTs K G H (ys.map V.str) ((ys.map DD.str).map SV.dat) [] := (strs_rq ys).ots
/-- o.split(e) -/
@[simp] def fSplit (fo fe : FO) : FE := fun ρ Q => fo ρ fun z ρ1 => (∃ a, resT ρ1 z = some (.dat (.str a))) ∧ fe ρ1 fun y ρ2 => ∃ a b, resT ρ2 z = some (.dat (.str a)) ∧ resT ρ2 y = some (.dat (.str b)) ∧ (b.length == 0) = false ∧ a.length + 2 ≤ sizeLine ∧ Q (.own (((Txt.split a b).map DD.str).map .dat)) ρ2
theorem e_split {fo fe : FO} (ho : PDo X io o fo) (ha : PDo X io e fe) (hs : starEach [e] X.env = [(false, eval e X.env)] := by rfl) (hbase : attributeBase o "split" X.env (eval o X.env) = eval o X.env := by rfl) (hline : (apos.endLine == pos.line) = true := by rfl) :
    PDe X io (.Call (.Attribute o "split" apos) [e] [] pos) (fSplit fo fe) := by
  obtain ⟨to, o1, o2⟩ := ho
  obtain ⟨te, a1, a2⟩ := ha
  refine ⟨_, pe_split o1 a1 hs hbase hline, fun B G H σ ρ fp Qd Q hB R hf k => ?_⟩
  refine o2 B G H σ ρ fp _ _ hB R hf fun z ρ1 v G1 H1 fp1 n1 oz ⟨⟨a0, e0⟩, hf⟩ => ?_
  obtain ⟨f0, ot0, _⟩ := oz.tree n1.rp e0
  obtain rfl := ot0.dat_inv.1.str_inv
  refine ⟨⟨a0, rfl⟩, ?_⟩
  refine a2 B G1 H1 σ ρ1 fp1 _ _ hB n1.rp hf fun y ρ2 u G2 H2 fp2 n2 oy ⟨a, b, e1, e2, hb, hz, q⟩ => ?_
  obtain ⟨f1, ot1, _⟩ := (oz.next n2).tree n2.rp e1
  obtain ⟨f2, ot2, _⟩ := oy.tree n2.rp e2
  obtain rfl := ot2.dat_inv.1.str_inv
  have ea := ot1.dat_inv.1.str_inv
  injection ea with ea
  subst ea
  exact ⟨a0, b, rfl, rfl, hb, hz, new_own R (n1.trans n2) (strs_ots _) (fun _ z => nomatch z) (fun _ z => nomatch z) fun v G'' H'' fp'' fr' n' ot' t1 t2 => k _ _ _ _ _ _ _ n' ot' t1 t2 q⟩
/-- o.partition(e) -/
@[simp] def fPartition (fo fe : FO) : FV := fun ρ Q => fo ρ fun z ρ1 => (∃ a, resT ρ1 z = some (.dat (.str a))) ∧ fe ρ1 fun y ρ2 => ∃ a b, resT ρ2 z = some (.dat (.str a)) ∧ resT ρ2 y = some (.dat (.str b)) ∧ (b.length == 0) = false ∧ a.length ≤ sizeLine ∧
  Q (.tup [.str (Txt.partition a b).1, .str (Txt.partition a b).2.1, .str (Txt.partition a b).2.2]) ρ2
theorem v_partition {fo fe : FO} (ho : PDo X io o fo) (ha : PDo X io e fe) (hs : starEach [e] X.env = [(false, eval e X.env)] := by rfl) (hbase : attributeBase o "partition" X.env (eval o X.env) = eval o X.env := by rfl) (hline : (apos.endLine == pos.line) = true := by rfl) :
    PDv X io (.Call (.Attribute o "partition" apos) [e] [] pos) (fPartition fo fe) := by
  obtain ⟨to, o1, o2⟩ := ho
  obtain ⟨te, a1, a2⟩ := ha
  refine ⟨_, pe_partition o1 a1 hs hbase hline, fun B G H σ ρ fp Qd Q hB R hf k => ?_⟩
  refine o2 B G H σ ρ fp _ _ hB R hf fun z ρ1 v G1 H1 fp1 n1 oz ⟨⟨a0, e0⟩, hf⟩ => ?_
  obtain ⟨f0, ot0, _⟩ := oz.tree n1.rp e0
  obtain rfl := ot0.dat_inv.1.str_inv
  refine ⟨⟨a0, rfl⟩, ?_⟩
  refine a2 B G1 H1 σ ρ1 fp1 _ _ hB n1.rp hf fun y ρ2 u G2 H2 fp2 n2 oy ⟨a, b, e1, e2, hb, hz, q⟩ => ?_
  obtain ⟨f1, ot1, _⟩ := (oz.next n2).tree n2.rp e1
  obtain ⟨f2, ot2, _⟩ := oy.tree n2.rp e2
  obtain rfl := ot2.dat_inv.1.str_inv
  have ea := ot1.dat_inv.1.str_inv
  injection ea with ea
  subst ea
  exact ⟨a0, b, rfl, rfl, hb, hz, stand_tup R (n1.trans n2) (ds := [.str _, .str _, .str _]) (.cons (.str _) (.cons (.str _) (.cons (.str _) .nil))) fun v G'' H'' n' r' => k _ _ _ _ _ _ n' r' q⟩
/-- o.join(e) -/
@[simp] def fJoin (fo fe : FO) : FV := fun ρ Q => fo ρ fun z ρ1 => (∃ a, resT ρ1 z = some (.dat (.str a))) ∧ fe ρ1 fun y ρ2 => ∃ a, ∃ ys : List Str, resT ρ2 z = some (.dat (.str a)) ∧ (resT ρ2 y = some (.dat (.lst (ys.map DD.str))) ∨ resT ρ2 y = some (.dat (.tup (ys.map DD.str)))) ∧
  (ys.map (·.length)).sum + ys.length * a.length ≤ 16777216 ∧ Q (.str (Txt.join a ys)) ρ2
theorem strs_of_rq {K : PySem.W.Frag} {G : Hp} : ∀ {ys : List Str} {xs : List V}, RqA K G xs (ys.map DD.str) → xs = ys.map V.str
  | [], _, .nil => rfl
  | y :: r, _, .cons a b => by rw [a.str_inv, strs_of_rq b]; rfl
theorem v_join {fo fe : FO} (ho : PDo X io o fo) (ha : PDo X io e fe) (hs : starEach [e] X.env = [(false, eval e X.env)] := by rfl) (hbase : attributeBase o "join" X.env (eval o X.env) = eval o X.env := by rfl) (hline : (apos.endLine == pos.line) = true := by rfl) :
    PDv X io (.Call (.Attribute o "join" apos) [e] [] pos) (fJoin fo fe) := by
  obtain ⟨to, o1, o2⟩ := ho
  obtain ⟨te, a1, a2⟩ := ha
  refine ⟨_, pe_join o1 a1 hs hbase hline, fun B G H σ ρ fp Qd Q hB R hf k => ?_⟩
  refine o2 B G H σ ρ fp _ _ hB R hf fun z ρ1 v G1 H1 fp1 n1 oz ⟨⟨a0, e0⟩, hf⟩ => ?_
  obtain ⟨f0, ot0, _⟩ := oz.tree n1.rp e0
  obtain rfl := ot0.dat_inv.1.str_inv
  refine ⟨⟨a0, rfl⟩, ?_⟩
  refine a2 B G1 H1 σ ρ1 fp1 _ _ hB n1.rp hf fun y ρ2 u G2 H2 fp2 n2 oy ⟨a, ys, e1, e2, hz, q⟩ => ?_
  obtain ⟨f1, ot1, _⟩ := (oz.next n2).tree n2.rp e1
  have ea := ot1.dat_inv.1.str_inv
  injection ea with ea
  subst ea
  have fin := k (.str (Txt.join a0 ys)) ρ2 _ G2 H2 fp2 (n1.trans n2) (.str _) q
  rcases e2 with e2 | e2
  · obtain ⟨f2, ot2, _⟩ := oy.tree n2.rp e2
    obtain ⟨q1, xs, rfl, h, rs⟩ := (ot2.dat_inv.1.mono n2.rp.co.sub).lst_inv
    obtain rfl := strs_of_rq rs
    exact ⟨a0, q1, ys, rfl, rfl, .inl (.inl h), hz, fin⟩
  · obtain ⟨f2, ot2, _⟩ := oy.tree n2.rp e2
    obtain ⟨q1, xs, rfl, h, rs⟩ := (ot2.dat_inv.1.mono n2.rp.co.sub).tup_inv
    obtain rfl := strs_of_rq rs
    exact ⟨a0, q1, ys, rfl, rfl, .inr h, hz, fin⟩
/-- o[lo:hi] -/
@[simp] def fSlS (fa : FO) (fl fh : FP) : FV := fun ρ Q => fa ρ fun x ρ1 => fl ρ1 fun lo ρ2 => fh ρ2 fun hi ρ3 => ∃ z, resT ρ3 x = some (.dat (.str z)) ∧ z.length ≤ sizeLine ∧ Q (.str (cutS z lo hi)) ρ3
theorem v_slS {lo hi : Option Expr} {fa : FO} {fl fh : FP} {p2 : Pos} (ha : PDo X io a fa) (hl : PDp X io lo fl) (hh : PDp X io hi fh) : PDv X io (.Subscript a (.Slice lo hi none p2) pos) (fSlS fa fl fh) := by
  obtain ⟨ta, a1, a2⟩ := ha
  obtain ⟨tl, l1, l2⟩ := hl
  obtain ⟨th, h1, h2⟩ := hh
  refine ⟨_, pe_slice sl_str a1 l1 h1, fun B G H σ ρ fp Qd Q hB R hf k => ?_⟩
  refine a2 B G H σ ρ fp _ _ hB R hf fun x ρ1 v1 G1 H1 fp1 n1 o1 hf => ?_
  refine l2 B G1 H1 σ ρ1 fp1 _ _ hB n1.rp hf fun lo ρ2 G2 H2 fp2 n2 hf => ?_
  refine h2 B G2 H2 σ ρ2 fp2 _ _ hB n2.rp hf fun hi ρ3 G3 H3 fp3 n3 ⟨z, e1, hz, q⟩ => ?_
  have n := (n1.trans n2).trans n3
  obtain ⟨f, ot, hin⟩ := ((o1.next n2).next n3).tree n3.rp e1
  exact ⟨z, ot.dat_inv.1.str_inv, hz, k _ _ _ _ _ _ n (.str _) q⟩
/-- str(int), int(str) -/
@[simp] def oStrI : OpN := fun ds P => ∃ i : Int, ds = [.int i] ∧ i.natAbs.log2 < 1920 ∧ P (.str (toString i))
theorem p_strI {fos : FOs} (hm : X.mg "str" = none) (ha : PDos X io [e] fos) (hg : Gl X "str" := by rfl) (he : starEach [e] X.env = (false, eval e X.env) :: starEach [] X.env := by rfl) : PDv X io (.Call (.Name "str" p) [e] [] pos) (fCB oStrI fos) :=
  p_ct call_str_int (fun H xs ds P Q hx h k => by
    obtain ⟨i, rfl, hz, q⟩ := h
    obtain ⟨x, rfl, r⟩ := hx.one
    exact ⟨i, by rw [r.int_inv], hz, k _ _ q (.str _)⟩) hm (by decide +kernel) ha hg (by decide) (by decide) he
@[simp] def oIntS : OpN := fun ds P => ∃ a n, ds = [.str a] ∧ PySem.intText? a = some n ∧ a.length ≤ 640 ∧ P (.int n)
theorem p_intS {fos : FOs} (hm : X.mg "int" = none) (ha : PDos X io [e] fos) (hg : Gl X "int" := by rfl) (he : starEach [e] X.env = (false, eval e X.env) :: starEach [] X.env := by rfl) : PDv X io (.Call (.Name "int" p) [e] [] pos) (fCB oIntS fos) :=
  p_ct call_int_str (fun H xs ds P Q hx h k => by
    obtain ⟨a, n, rfl, hn, hz, q⟩ := h
    obtain ⟨x, rfl, r⟩ := hx.one
    exact ⟨a, n, by rw [r.str_inv], hn, hz, k _ _ q (.int _)⟩) hm (by decide +kernel) ha hg (by decide) (by decide) he
/-- one sign in a text -/
@[simp] def oInS : Op2 := fun d e P => ∃ (c : Nat) (z : Str), d = .str ⟨#[c]⟩ ∧ e = .str z ∧ P (.bl (decide (c ∈ z.cps.toList)))
@[simp] def oNinS : Op2 := fun d e P => ∃ (c : Nat) (z : Str), d = .str ⟨#[c]⟩ ∧ e = .str z ∧ P (.bl (!decide (c ∈ z.cps.toList)))
theorem sc_inS {K : PySem.W.Frag} : ScR K (fun x y H Q => ∃ (c : Nat) (z : Str), x = .str ⟨#[c]⟩ ∧ y = .str z ∧ Q (.bl (decide (c ∈ z.cps.toList))) H) oInS := fun H x y d e P Q hx hy h k => by
  obtain ⟨c, z, rfl, rfl, p⟩ := h
  exact ⟨c, z, hx.str_inv, hy.str_inv, k _ _ p (.bl _)⟩
theorem sc_ninS {K : PySem.W.Frag} : ScR K (fun x y H Q => ∃ (c : Nat) (z : Str), x = .str ⟨#[c]⟩ ∧ y = .str z ∧ Q (.bl (!decide (c ∈ z.cps.toList))) H) oNinS := fun H x y d e P Q hx hy h k => by
  obtain ⟨c, z, rfl, rfl, p⟩ := h
  exact ⟨c, z, hx.str_inv, hy.str_inv, k _ _ p (.bl _)⟩
theorem p_inS {fa fb : FO} (ha : PDo X io a fa) (hb : PDo X io b fb) (hm : behindInMarks .In b = false := by rfl) : PDv X io (.Compare a [.In] [b] pos) (fBin oInS fa fb) := p_cmp op_in_sign sc_inS hm ha hb
theorem p_ninS {fa fb : FO} (ha : PDo X io a fa) (hb : PDo X io b fb) (hm : behindInMarks .NotIn b = false := by rfl) : PDv X io (.Compare a [.NotIn] [b] pos) (fBin oNinS fa fb) := p_cmp op_notIn_sign sc_ninS hm ha hb
theorem q_inS {fa fb : FO} (ha : PDo X io a fa) (hb : PDo X io b fb) (hm : behindInMarks .In b = false := by rfl) : PDt X io (.Compare a [.In] [b] pos) (fTst (fBin oInS fa fb)) := t_cmp op_in_sign sc_inS hm ha hb
theorem q_ninS {fa fb : FO} (ha : PDo X io a fa) (hb : PDo X io b fb) (hm : behindInMarks .NotIn b = false := by rfl) : PDt X io (.Compare a [.NotIn] [b] pos) (fTst (fBin oNinS fa fb)) := t_cmp op_notIn_sign sc_ninS hm ha hb
end
end DL

namespace DL
open PySem PySem.Spec PyProof.Rows L2
/-! ### texts turned about -/
def revS (z : Str) : Str := ⟨z.cps.toList.reverse.toArray⟩
theorem rev_picked (z : Str) : (⟨((Builtin.Str.strSliceIndices none none (-1) z.length).filterMap (z.cps[·]?)).toArray⟩ : Str) = revS z := by
  unfold revS
  rw [picked_rev, filterMap_get]
  · congr 2
    rw [List.map_map]
    refine List.ext_getElem? fun i => ?_
    rw [List.getElem?_map]
    by_cases h : i < z.length
    · have hz : z.length = z.cps.toList.length := by show z.cps.size = _; rw [Array.length_toList]
      rw [List.getElem?_range h, Option.map_some, List.getElem?_reverse (by rw [← hz]; exact h), ← hz]
      show some (z.cps.getD (z.length - 1 - i) 0) = z.cps.toList[z.length - 1 - i]?
      have : z.length - 1 - i < z.cps.size := by show z.length - 1 - i < z.length; omega
      rw [Array.getElem?_toList, Array.getElem?_eq_getElem this]
      simp [Array.getD, this]
    · have hz : z.length = z.cps.toList.length := by show z.cps.size = _; rw [Array.length_toList]
      rw [List.getElem?_eq_none (by rw [List.length_range]; omega), List.getElem?_eq_none (by rw [List.length_reverse, ← hz]; omega)]
      rfl
  · intro i hi
    obtain ⟨k, hk, rfl⟩ := List.mem_map.mp hi
    have hk' : k < z.length := List.mem_range.mp hk
    show z.length - 1 - k < z.length
    omega
theorem revS_len (z : Str) : (revS z).length = z.length := by
  show z.cps.toList.reverse.toArray.size = z.cps.size
  simp
section
variable {X : Cx} {io : List Nat} {a : Expr} {pos : Pos}
theorem pe_revS {e : Expr} {te : TE} {k : Nat} {p1 p2 p3 pos : Pos} (he : PE X e te) : PE X (.Subscript e (.Slice none none (some (.UnaryOp .USub (.Constant (.int 1) k p1) p2)) p3) pos) (fun σ H Q => te σ H fun x H1 => ∃ z, x = .str z ∧ z.length ≤ sizeLine ∧ Q (.str (revS z)) H1) := by
  refine ⟨fun pins s σ H Q I h => ?_⟩
  refine Subscript_ (thn (he.run pins s σ H _ I h) fun v s1 ⟨x, H1, I1, r1, q1⟩ => ?_)
  obtain ⟨z, rfl, hz, q⟩ := q1
  obtain ⟨t, rfl⟩ := r1
  have hst : PO X (some (.UnaryOp .USub (.Constant (.int 1) k p1) p2)) (tPart (tUn (rU fun i => .int (-i)) (tC (.int 1)))) := po_some (pe_un un_neg pe_int)
  refine wpAny_Slice (thn (po_none.run pins s1 σ H1 (fun o H2 => o = none ∧ H2 = H1) I1 ⟨rfl, rfl⟩) fun vl s2 ⟨l, H2, I2, pl, el, e2⟩ => ?_)
  subst el e2
  refine thn (po_none.run pins s2 σ H2 (fun o H3 => o = none ∧ H3 = H2) I2 ⟨rfl, rfl⟩) fun vu s3 ⟨u, H3, I3, pu, eu, e3⟩ => ?_
  subst eu e3
  refine thn (hst.run pins s3 σ H3 (fun o H4 => o = some (-1) ∧ H4 = H3) I3 ⟨1, rfl, -1, rfl, rfl, rfl⟩) fun vs s4 ⟨o, H4, I4, ps, eo, e4⟩ => ?_
  subst eo e4
  obtain ⟨l0, rfl, hl0⟩ := IsPart.raw pl
  obtain ⟨u0, rfl, hu0⟩ := IsPart.raw pu
  obtain ⟨s0, rfl, hs0⟩ := IsPart.raw ps
  have I5 : Inv X pins σ H4 { s4 with heap := s4.heap.push { cls := .type "slice", data := .fields #[partValue l0, partValue u0, partValue s0] } } := I4.kept (t' := s4.toks) fun b ob q => Heap.get?_push_of_some _ q
  show wpAny (model X.prog X.w) X.A (subscriptTail e (.Slice none none (some (.UnaryOp .USub (.Constant (.int 1) k p1) p2)) p3) (.str z t) (.ref s4.heap.objs.size)) (EP X pins σ Q) X.xe _
  refine tail_any (ops := [.str z t, .ref s4.heap.objs.size]) (typeIs_str _ _ _) (PySem.F.slot_str_getitem.lookup) ?_ (by with_unfolding_all rfl)
  refine wpAny_getItem_str_slice (l := l0) (u := u0) (st := s0) ⟨_, Heap.get?_push_size _ rfl, rfl, rfl⟩ (by rw [hs0]; rfl) ?_
  show Made.post (if (((s0.map (·.1)).getD 1) == 1 && (Builtin.Str.strSliceIndices (l0.map (·.1)) (u0.map (·.1)) ((s0.map (·.1)).getD 1) z.length).length == z.length) = true then Made.val (.str z t)
    else Made.str ⟨((Builtin.Str.strSliceIndices (l0.map (·.1)) (u0.map (·.1)) ((s0.map (·.1)).getD 1) z.length).filterMap (z.cps[·]?)).toArray⟩) (EP X pins σ Q) _
  rw [hl0, hu0, hs0]
  rw [if_neg (by simp)]
  show Made.post (Made.str ⟨((Builtin.Str.strSliceIndices none none (-1) z.length).filterMap (z.cps[·]?)).toArray⟩) (EP X pins σ Q) _
  rw [rev_picked]
  exact ⟨by rw [revS_len]; exact hz, .str _, H4, I5.tok _, ⟨_, rfl⟩, q⟩
@[simp] def fRevS (fa : FO) : FV := fun ρ Q => fa ρ fun x ρ1 => ∃ z, resT ρ1 x = some (.dat (.str z)) ∧ z.length ≤ sizeLine ∧ Q (.str (revS z)) ρ1
theorem v_revS {k : Nat} {p1 p2 p3 : Pos} {fa : FO} (ha : PDo X io a fa) : PDv X io (.Subscript a (.Slice none none (some (.UnaryOp .USub (.Constant (.int 1) k p1) p2)) p3) pos) (fRevS fa) := by
  obtain ⟨ta, a1, a2⟩ := ha
  refine ⟨_, pe_revS a1, fun B G H σ ρ fp Qd Q hB R hf k => ?_⟩
  refine a2 B G H σ ρ fp _ _ hB R hf fun x ρ1 v1 G1 H1 fp1 n1 o1 ⟨z, e1, hz, q⟩ => ?_
  obtain ⟨f, ot, hin⟩ := o1.tree n1.rp e1
  exact ⟨z, ot.dat_inv.1.str_inv, hz, k _ _ _ _ _ _ n1 (.str _) q⟩
end
end DL

namespace DL
open PySem PySem.Spec PyProof.Rows L2
/-! ### constants of the module; f(k = e, ..) that ends or raises -/
section
variable {X : Cx} {W : WX} {io : List Nat} {k : Nat} {f : Addr} {fd : FuncData} {ps ks : List Str} {sp : Sp} {E : L2.St → XK} {x : Str} {kws : List Keyword} {pos p : Pos} {tk : TA} {CX : CXT} {F : Ctr} {Fx : XCtr}
theorem c_gv {v : V} {d : DD} (l : Rq X.K (fun _ => none) v d) (h : ∃ u, X.mg x = some u ∧ RelV v u) (hg : Gl X x := by rfl) (hd : (x == ("__debug__" : Str)) = false := by decide) : PDv X io (.Name x pos) (fC d) := by
  obtain ⟨u, hm, r⟩ := h
  exact c_glob hm r l hg hd
def tCallKS (n : Nat) (sp : Sp) (E : L2.St → XK) (t : TA) : TE := fun σ H Q => t σ H fun vs H2 => vs.length = n ∧ sp vs H2 Q (E σ)
theorem pe_callKS (F : FnG X.prog X.w X.K X.mg X.base CX k f fd ps sp) (hr : RoomG k X.A) (hg : Gl X x) (hm : X.mg x = some (.ref f)) (hk : PySem.W.keepIn X.K (.ref f) = true) (hb : BndI X.K fd ps ks) (hx : ∀ σ, PassesAt CX X σ (E σ)) (hkw : PK X kws tk)
    (hdb : (x == ("__debug__" : Str)) = false) (hall : (backToKw pos (keywordEach kws X.env)).all (·.1.isSome) = true) (hks : (backToKw pos (keywordEach kws X.env)).filterMap (·.1) = ks)
    (hpl : ((backTo pos (starEach [] X.env)).any (·.1) || (backToKw pos (keywordEach kws X.env)).any (·.1.isNone)) = false) : PE X (.Call (.Name x p) [] kws pos) (tCallKS ks.length sp E tk) := by
  refine ⟨fun pins s σ H Q I h => ?_⟩
  refine wpAny_Call_Name_kw (ld_glob I hg hm ?_ hdb)
  refine PySem.W.callWith_KW0 (first := []) (h₀ := X.base) I.ok.mod.kin hk hall (thn (hkw.run pos pins s σ H _ I h) fun ws s2 ⟨zs, H2, I2, rz, hn, q2⟩ => ⟨I2.kIn, ?_⟩) hpl
  rw [hks]
  have ln := F.len _ _ _ _ q2
  have bd := hb s2 [] ws I2.kIn (by rw [← hn, rz.length]) (by rw [rz.length] at ln; simpa using ln)
  refine wpAny_call (codeAny_mono (F.run X.A X.stack s2 H2 ⟨[], ks.zip ws⟩ ws zs Q (E σ) hr I2.env0 bd rz q2) fun r s' hq => ?_)
  cases r with
  | error er => exact hx σ pins H2 s2 er s' I2 hq
  | ok fl =>
    cases fl with
    | ret u => exact I2.after hq
    | next => exact hq.elim
    | brk => exact hq.elim
    | cont => exact hq.elim
/-- the def by names ends or raises -/
def HbK (P : Program) (w : World) (K : PySem.W.Frag) (mg : Str → Option Value) (base : Heap) (x : Str) (ps ks : List Str) (k : Nat) (F : Ctr) (Fx : XCtr) : Prop :=
  ∃ f fd, mg x = some (.ref f) ∧ PySem.W.keepIn K (.ref f) = true ∧ BndI K fd ps ks ∧ FnG P w K mg base (L2.CX P w) k f fd ps (spB K F Fx)
@[simp] def fCallKB (F : Ctr) (Fx : XCtr) (fd : FDs) : FEx := fun Wd ρ Q => fd ρ fun es ρ2 => (F (es.map .dat) (fun r _ => Q r ρ2) ∨ Fx (es.map .dat) fun Cx d _ => Wd Cx d ρ2)
theorem ex_callK {fd' : FDs} (tk : Takes X W) (h : HbK X.prog X.w X.K X.mg X.base x ps ks k F Fx) (hr : RoomG k X.A) (ha : PDkw X io kws fd') (hn : ∀ ρ Q, fd' ρ Q → fd' ρ fun es ρ1 => es.length = ks.length ∧ Q es ρ1) (hg : Gl X x := by rfl) (hdb : (x == ("__debug__" : Str)) = false := by decide)
    (hall : (backToKw pos (keywordEach kws X.env)).all (·.1.isSome) = true := by rfl) (hks : (backToKw pos (keywordEach kws X.env)).filterMap (·.1) = ks := by rfl)
    (hpl : ((backTo pos (starEach [] X.env)).any (·.1) || (backToKw pos (keywordEach kws X.env)).any (·.1.isNone)) = false := by rfl) : PDex X W io (.Call (.Name x p) [] kws pos) (fCallKB F Fx fd') := by
  obtain ⟨f, fd, h1, h2, hb, hF⟩ := h
  obtain ⟨t, a1, a2⟩ := ha
  refine ⟨_, pe_callKS (E := WE W) hF hr hg h1 h2 hb (fun σ => passAt tk σ) a1 hdb hall hks hpl, fun B G H σ ρ fp Qd Q Wd hB R hf sx kk => ?_⟩
  refine (da_len hn a2) B G H σ ρ fp _ _ hB R hf fun es ρ2 vs G2 H2 fp2 n2 rs q => ?_
  refine spB_data n2.rp rs q sx fun r as' v G' H' fr n3 ot2 s1 s2 q2 => ?_
  exact kk r ρ2 v G' H' fp2 fr (n2.trans n3) ot2 s1 (fun b m => by
    by_cases z : In fp b
    · exact .inr z
    · exact .inl (n2.st.fresh z (s2 b m))) q2
end
end DL

namespace DL
open PySem PySem.Spec PyProof.Rows L2
/-! ### t.replace(a, b) of written texts: where a token is out -/
section
variable {X : Cx} {io : List Nat} {o e a b : Expr} {es : List Expr} {pos apos c0 c1 : Pos} {j0 j1 : Nat} {st : Stmt} {rest : List Stmt}
theorem pet_of {te : TE} (h : PE X e te) : L2.PET X e te := fun pins s σ H Q _ I q => h.run pins s σ H Q I q
theorem pet_repl {to : TE} {y z : Str} (ho : PE X o to) (hst : starEach [.Constant (.str y) j0 c0, .Constant (.str z) j1 c1] X.env = [(false, eval (.Constant (.str y) j0 c0) X.env), (false, eval (.Constant (.str z) j1 c1) X.env)])
    (hbase : attributeBase o "replace" X.env (eval o X.env) = eval o X.env) (hline : (apos.endLine == pos.line) = true) :
    L2.PET X (.Call (.Attribute o "replace" apos) [.Constant (.str y) j0 c0, .Constant (.str z) j1 c1] [] pos) (fun σ H Q => to σ H fun x H1 => ∃ t, x = .str t ∧ (y == z) = false ∧ t.length + (t.length + 1) * z.length ≤ 16777216 ∧ Q (.str (Txt.replace t y z)) H1) := by
  intro pins s σ H Q h0 I h
  refine PySem.Call_method2 hbase hst hline (wpAny_mono (PySem.wpAny_toks (ho.run pins s σ H _ I h)) (fun v s1 q => ?_) fun _ _ z => z.2)
  obtain ⟨hk, x, H1, I1, r1, t, rfl, hyz, hb, q⟩ := q
  obtain ⟨tx, rfl⟩ := r1
  refine ⟨"str", _, PySem.F.plainAttrs_str, PySem.F.slot_str_replace, PySem.F.type_str_replace, typeIs_str _ _ _, (fun _ e => nomatch e), Calls.callWith_builtin rfl (Calls.evalArgs_plain (Calls.spliced_cons ?_))⟩
  refine Calls.Constant_str ?_
  refine Calls.spliced_cons (Calls.Constant_str ?_)
  refine Calls.spliced_nil ?_
  exact PySem.SC.replace (t := tx) (u := s1.toks) (v := s1.toks + 1) (Nat.pos_iff_ne_zero.mp (Nat.le_trans h0 hk)) (Nat.succ_ne_zero _) (Nat.ne_of_lt (Nat.lt_succ_self _)) hyz hb fun t' k => ⟨.str (Txt.replace t y z), H1, I1.tok k, ⟨t', rfl⟩, q⟩
/-- a value where a token is out -/
def PDeT (X : Cx) (io : List Nat) (e : Expr) (fe : FE) : Prop := ∃ te, L2.PET X e te ∧ DE X.K io te fe
theorem eT_of {fe : FE} (h : PDe X io e fe) : PDeT X io e fe := let ⟨te, h1, h2⟩ := h; ⟨te, pet_of h1, h2⟩
@[simp] def fRepl (y z : Str) (fo : FO) : FE := fun ρ Q => fo ρ fun x ρ1 => ∃ t, resT ρ1 x = some (.dat (.str t)) ∧ (y == z) = false ∧ t.length + (t.length + 1) * z.length ≤ 16777216 ∧ Q (.dat (.str (Txt.replace t y z))) ρ1
theorem eT_repl {y z : Str} {fo : FO} (ho : PDo X io o fo) (hst : starEach [.Constant (.str y) j0 c0, .Constant (.str z) j1 c1] X.env = [(false, eval (.Constant (.str y) j0 c0) X.env), (false, eval (.Constant (.str z) j1 c1) X.env)] := by rfl)
    (hbase : attributeBase o "replace" X.env (eval o X.env) = eval o X.env := by rfl) (hline : (apos.endLine == pos.line) = true := by rfl) :
    PDeT X io (.Call (.Attribute o "replace" apos) [.Constant (.str y) j0 c0, .Constant (.str z) j1 c1] [] pos) (fRepl y z fo) := by
  obtain ⟨to, o1, o2⟩ := ho
  refine ⟨_, pet_repl o1 hst hbase hline, fun B G H σ ρ fp Qd Q hB R hf k => ?_⟩
  refine o2 B G H σ ρ fp _ _ hB R hf fun x ρ1 v G1 H1 fp1 n1 ox ⟨t, e1, hyz, hz, q⟩ => ?_
  obtain ⟨f, ot, _⟩ := ox.tree n1.rp e1
  exact ⟨t, ot.dat_inv.1.str_inv, hyz, hz, k _ _ _ _ _ _ [] n1 (.dat (.str _)) (fun _ z => nomatch z) (fun _ z => nomatch z) q⟩
def PDsT' (X : Cx) (io : List Nat) (es : List Expr) (fs : FSs) : Prop := ∃ ta, L2.PAT X es ta ∧ DSv X.K io ta fs
theorem gT_nil : PDsT' X io [] gNil := ⟨_, pat_nil, fun B G H σ ρ fp Qd Q hB R hf k => k [] ρ [] G H fp [] (Nxt.refl R) .nil (fun _ z => nomatch z) (fun _ z => nomatch z) hf⟩
theorem gT_cons {fe : FE} {fr : FSs} (ha : PDeT X io e fe) (hr : PDsT' X io es fr) (hs : starEach (e :: es) X.env = (false, eval e X.env) :: starEach es X.env := by rfl) : PDsT' X io (e :: es) (DL.gCons fe fr) := by
  obtain ⟨_, a1, a2⟩ := ha
  obtain ⟨_, b1, b2⟩ := hr
  refine ⟨_, pat_cons a1 b1 hs, fun B G H σ ρ fp Qd Q hB R hf k => ?_⟩
  refine a2 B G H σ ρ fp _ _ hB R hf fun x ρ1 v1 G1 H1 fp1 f1 n1 o1 t1 t1' hf => ?_
  refine b2 B G1 H1 σ ρ1 fp1 _ _ hB n1.rp hf fun xs ρ2 vs G2 H2 fp2 f2 n2 os t2 t2' q => ?_
  have o1' : OT X.K G2 H2 v1 x f1 := o1.mono n2.st.ex (fun a m o h => n2.st.keep a o (t1 a m) h) fun a m => by
    obtain ⟨⟨u, h⟩, g⟩ := o1.here a m
    exact n2.st.hid a u (t1 a m) h g
  refine k _ ρ2 _ G2 H2 fp2 (f1 ++ f2) (n1.trans n2) (.cons o1' os fun a m m' => ?_) (fun a m => ?_) (fun a m => ?_) q
  · rcases t2' a m' with z | z
    · obtain ⟨⟨u, h⟩, _⟩ := o1.here a m
      rw [z] at h; cases h
    · exact t1 a m z
  · rcases List.mem_append.mp m with m | m
    · intro i
      rcases n2.inn a i with z | z
      · exact t1 a m z
      · obtain ⟨⟨u, h⟩, _⟩ := o1.here a m
        rw [z] at h; cases h
    · exact t2 a m
  · rcases List.mem_append.mp m with m | m
    · exact t1' a m
    · rcases t2' a m with z | z
      · by_cases q : In fp a
        · exact .inr q
        · exact .inl (n1.st.fresh q z)
      · exact (n1.inn a z).symm
theorem eT_lst {fs : FSs} (h : PDsT' X io es fs) : PDeT X io (.List es pos) (fLst fs) := by
  obtain ⟨_, a1, a2⟩ := h
  refine ⟨_, pet_lst a1, fun B G H σ ρ fp Qd Q hB R hf k => ?_⟩
  refine a2 B G H σ ρ fp _ _ hB R hf fun ts ρ1 vs G1 H1 fp1 f1 n1 os t1 t1' ⟨hz, q⟩ => ?_
  exact ⟨by rw [os.length]; exact hz, new_own R n1 os t1 t1' fun v G'' H'' fp'' fr' n' ot' u1 u2 => k _ _ _ _ _ _ _ n' ot' u1 u2 q⟩
theorem pet_op {op : Operator} {r : R2} {ta tb : TE} (ho : OpR X (binaryOp op) r) (ha : PE X a ta) (hb : L2.PET X b tb) : L2.PET X (.BinOp a op b pos) (tOp r ta tb) := by
  intro pins s σ H Q h0 I h
  refine wpAny_BinOp (wpAny_mono (PySem.wpAny_toks (ha.run pins s σ H _ I h)) (fun v s1 q => ?_) fun _ _ z => z.2)
  obtain ⟨hk, x, H1, I1, r1, q1⟩ := q
  exact thn (hb pins s1 σ H1 _ (Nat.le_trans h0 hk) I1 q1) fun u s2 ⟨y, H2, I2, r2, q2⟩ => ho pins s2 σ H2 x y v u Q I2 r1 r2 q2
theorem eT_add {fa fb : FE} (ha : PDe X io a fa) (hb : PDeT X io b fb) : PDeT X io (.BinOp a .Add b pos) (fAddE fa fb) := by
  obtain ⟨ta, a1, a2⟩ := ha
  obtain ⟨tb, b1, b2⟩ := hb
  refine ⟨_, pet_op op_addA a1 b1, fun B G H σ ρ fp Qd Q hB R hf k => ?_⟩
  refine two_trees a2 b2 (Qd := fun x y ρ2 => addT x y fun r => Qd r ρ2) hB R hf fun x y ρ2 v w G2 H2 fp2 f1 f2 n o1 o2 d12 n1 n2 t1 t2 q => ?_
  rcases addT_cases q with ⟨i, j, rfl, rfl, q⟩ | ⟨i, j, rfl, rfl, z, q⟩ | ⟨l, m, el, em, z, q⟩
  · exact .inl ⟨i, j, o1.dat_inv.1.int_inv, o2.dat_inv.1.int_inv, k _ _ _ _ _ _ [] n (.dat (.int _)) (fun _ z => nomatch z) (fun _ z => nomatch z) q⟩
  · exact .inr (.inl ⟨i, j, o1.dat_inv.1.str_inv, o2.dat_inv.1.str_inv, z, k _ _ _ _ _ _ [] n (.dat (.str _)) (fun _ z => nomatch z) (fun _ z => nomatch z) q⟩)
  · obtain ⟨p, xs, g1, ev, h1, os1, s1⟩ := items_of o1 n.rp.co.sub el
    obtain ⟨p2, ys, g2, ew, h2, os2, s2⟩ := items_of o2 n.rp.co.sub em
    refine .inr (.inr ⟨p, p2, xs, ys, ev, ew, h1, h2, by rw [os1.length, os2.length]; exact z, ?_⟩)
    exact new_own R n (os1.append os2 fun a m m' => d12 a (s1 a m) (s2 a m')) (fun a m => (List.mem_append.mp m).elim (fun m => n1 a (s1 a m)) fun m => n2 a (s2 a m)) (fun a m => (List.mem_append.mp m).elim (fun m => t1 a (s1 a m)) fun m => t2 a (s2 a m))
      fun v G'' H'' fp'' fr' n' ot' u1 u2 => k _ _ _ _ _ _ _ n' ot' u1 u2 q
/-- the value is told as data -/
theorem eT_dat {fe : FE} (h : PDeT X io e fe) : PDeT X io e (vE (eV fe)) := by
  obtain ⟨te, h1, h2⟩ := h
  refine ⟨te, h1, fun B G H σ ρ fp Qd Q hB R hf k => h2 B G H σ ρ fp _ Q hB R hf fun r ρ' v G' H' fp' fr n ot t1 t2 q => ?_⟩
  obtain ⟨n', rq⟩ := Nxt.sealed R n ot t1 t2
  exact k _ _ _ _ _ _ [] n' (.dat rq) (fun _ z => nomatch z) (fun _ z => nomatch z) q
/-! statements -/
def PDsT (X : Cx) (io : List Nat) (st : Stmt) (fs : FS) : Prop := ∃ t, L2.PST X st t ∧ DS X.K io t fs
def PDssT (X : Cx) (io : List Nat) (st : List Stmt) (fs : FS) : Prop := ∃ t, L2.PSsT X st t ∧ DS X.K io t fs
variable {f g : FS}
theorem sT_of (h : PDs X io st f) : PDsT X io st f := let ⟨t, h1, h2⟩ := h; ⟨t, .of h1, h2⟩
theorem ssT_of (h : PDss X io rest f) : PDssT X io rest f := let ⟨t, h1, h2⟩ := h; ⟨t, .of h1, h2⟩
theorem ssT_cons (h1 : PDsT X io st f) (h2 : PDssT X io rest g) : PDssT X io (st :: rest) (fSeq f g) := by
  obtain ⟨t, a1, a2⟩ := h1
  obtain ⟨u, b1, b2⟩ := h2
  exact ⟨_, psst_cons a1 b1, fun B G H σ ρ fp Dd Dh hB R hf s => a2 B G H σ ρ fp _ _ hB R hf ⟨fun G H σ ρ fp R q => b2 B G H σ ρ fp Dd Dh hB R q s, s.rt, s.bk, s.ct⟩⟩
theorem sT_set {i : Nat} {x : Str} {fe : FE} {pos' : Pos} (hN : X.N.Nodup) (h : PDeT X io e fe) (hi : X.N[i]? = some x := by rfl) (hx : Loc X.env.scope x := by first | exact Or.inl rfl | exact Or.inr rfl)
    (hs : swapsWith e (some (.Name x pos')) pos.line X.env = pure false := by rfl) (hf : X.fn x = true ∨ X.env.scope.names.lookup x = some .local := by first | exact .inl rfl | exact .inr rfl) : PDsT X io (.Assign [.Name x pos'] e pos) (fSet io i fe) := by
  obtain ⟨te, a1, a2⟩ := h
  refine ⟨tAsg te (gName i), fun pins s σ H D h0 I h => ?_, ds_set a2⟩
  refine wpAny_Assign_Name (thn (a1 pins s σ H _ h0 I h) fun v s1 ⟨y, H1, I1, r1, q1⟩ => ?_) hs
  exact store_ok I1 hN hi hx r1 (fun s2 I2 => ⟨_, H1, I2, q1⟩) hf
theorem pek_lst {c : Str} {j : Nat} {cp lp : Pos} {tb : TA} (hb : PA X es tb) (hs : starEach (.Constant (.str c) j cp :: es) X.env = (false, eval (.Constant (.str c) j cp) X.env) :: starEach es X.env) (pins : List (Addr × Obj)) (s : Shared) (σ : L2.St) (H : Hp) (Q : VK) (I : Inv X pins σ H s)
    (hq : tLst (tCons (tC (.str c)) tb) σ H Q) : wpAny (model X.prog X.w) X.A (eval (.List (.Constant (.str c) j cp :: es) lp) X.env) (fun v s' => 1 ≤ s'.toks ∧ EP X pins σ Q v s') X.xe s := by
  refine wpAny_List_spliced ?_
  rw [hs]
  show wpAny _ _ (spliced ((false, eval (.Constant (.str c) j cp) X.env) :: backTo lp (starEach es X.env))) _ _ s
  refine Calls.spliced_cons (Calls.Constant_str ?_)
  refine wpAny_mono (PySem.wpAny_toks (hb.run lp pins { s with toks := s.toks + 1 } σ H _ (I.tok _) hq)) (fun us s1 q => ?_) fun _ _ z => z.2
  obtain ⟨hk, xs, H1, I1, r, z, q⟩ := q
  have hz : (V.str c :: xs).length = (Value.str c s.toks :: us).length := by simp [r.length]
  refine ⟨by rw [← hz]; exact z, Nat.le_trans (Nat.succ_le_succ (Nat.zero_le _)) hk, ?_⟩
  have hf : H1 s1.heap.objs.size = none := I1.hok.fresh (Nat.le_refl _)
  refine ⟨.ref s1.heap.objs.size, upd H1 s1.heap.objs.size (.lst (V.str c :: xs)), I1.laid (t' := s1.toks) (fun b u e => Heap.get?_push_of_some _ e) (Nat.le_refl _) ?_, rfl, q _ hf⟩
  exact ⟨z, Value.str c s.toks :: us, 0, .cons ⟨_, rfl⟩ r, Heap.get?_push_size _ rfl⟩
/-- x = ['..', ..]: behind it a token is out -/
theorem ss_tok {i : Nat} {x c : Str} {j : Nat} {cp lp pos' : Pos} {fr : FSs} (hN : X.N.Nodup) (h : PDs' X io es fr) (h2 : PDssT X io rest g) (hse : starEach (.Constant (.str c) j cp :: es) X.env = (false, eval (.Constant (.str c) j cp) X.env) :: starEach es X.env := by rfl)
    (hi : X.N[i]? = some x := by rfl) (hx : Loc X.env.scope x := by first | exact Or.inl rfl | exact Or.inr rfl)
    (hs : swapsWith (.List (.Constant (.str c) j cp :: es) lp) (some (.Name x pos')) pos.line X.env = pure false := by rfl) (hf : X.fn x = true ∨ X.env.scope.names.lookup x = some .local := by first | exact .inl rfl | exact .inr rfl) :
    PDss X io (.Assign [.Name x pos'] (.List (.Constant (.str c) j cp :: es) lp) pos :: rest) (fSeq (fSet io i (vE (eV (fLst (DL.gCons (vE (fC (.str c))) fr))))) g) := by
  obtain ⟨tb, b1, b2⟩ := h
  obtain ⟨u, u1, u2⟩ := h2
  -- the data side of the list
  have dl : DE X.K io (tLst (tCons (tC (.str c)) tb)) (vE (eV (fLst (DL.gCons (vE (fC (.str c))) fr)))) := by
    intro B G H σ ρ fp Qd Q hB R hf k
    have hf : fr ρ fun xs ρ2 => (SV.dat (.str c) :: xs).length ≤ sizeLine ∧ Qd (.dat (SV.own (SV.dat (.str c) :: xs)).data) ρ2 := hf
    refine b2 B G H σ ρ fp _ _ hB R hf fun xs ρ2 vs G2 H2 fp2 f2 n2 os t2 t2' ⟨hz, q⟩ => ?_
    have os' : OTs X.K G2 H2 (V.str c :: vs) (SV.dat (.str c) :: xs) ([] ++ f2) := .cons (.dat (.str c)) os fun _ z => nomatch z
    refine ⟨by rw [os'.length]; exact hz, ?_⟩
    refine new_own R n2 os' (fun a m => t2 a (by simpa using m)) (fun a m => t2' a (by simpa using m)) fun v G'' H'' fp'' fr' n' ot' u1 u2 => ?_
    obtain ⟨n3, rq⟩ := Nxt.sealed R n' ot' u1 u2
    exact k _ _ _ _ _ _ [] n3 (.dat rq) (fun _ z => nomatch z) (fun _ z => nomatch z) q
  refine ⟨tSeq (tAsg (tLst (tCons (tC (.str c)) tb)) (gName i)) u, ⟨fun pins s σ H D I h => ?_⟩, fun B G H σ ρ fp Dd Dh hB R hf s => ds_set dl B G H σ ρ fp _ _ hB R hf ⟨fun G H σ ρ fp R q => u2 B G H σ ρ fp Dd Dh hB R q s, s.rt, s.bk, s.ct⟩⟩
  refine wpAny_execs_cons (wpAny_Assign_Name (thn (pek_lst b1 hse pins s σ H (fun x H1 => u D (σ.set i (some x)) H1) I h) fun v s1 ⟨ht, y, H1, I1, r1, q1⟩ => ?_) hs)
  refine wpAny_mono (PySem.wpAny_toks (store_ok (v := y) (u := v) (Q := fun _ s2 => Inv X pins (σ.set i (some y)) H1 s2) I1 hN hi hx r1 (fun _ I2 => I2) hf)) (fun _ s2 q => ?_) fun _ _ z => z.2
  exact u1 pins s2 _ H1 D (Nat.le_trans ht q.1) q.2 q1
end
end DL

namespace DL
open PySem PySem.Spec PyProof.Rows L2
/-! ### x in l, any data -/
section
variable {X : Cx} {io : List Nat} {a b : Expr} {pos : Pos} {fa fb : FO}
def inD (d : DD) (l : List DD) : Bool := l.any fun c => eqD c d
@[simp] def oInD : Op2 := fun d e P => ∃ l, e = .lst l ∧ okD d = true ∧ okD (.lst l) = true ∧ P (.bl (inD d l))
@[simp] def oNinD : Op2 := fun d e P => ∃ l, e = .lst l ∧ okD d = true ∧ okD (.lst l) = true ∧ P (.bl (!inD d l))
theorem any_pys {d : PyData} : ∀ {l : List DD}, (DD.pys l).any (fun z => PyData.eqv z d) = l.any fun c => PyData.eqv c.py d
  | [] => rfl
  | c :: r => by simp [DD.pys, any_pys (l := r)]
theorem sc_inD {K : PySem.W.Frag} : ScR K (rInD K) oInD := fun H x y d e P Q hx hy h k => by
  obtain ⟨l, rfl, k1, k2, p⟩ := h
  exact ⟨d.py, DD.pys l, hx.dp (okD_of k1).1, hy.dp (okD_of k2).1, (okD_of k1).2, (okD_of k2).2, by rw [any_pys]; exact k _ _ p (.bl _)⟩
theorem sc_ninD {K : PySem.W.Frag} : ScR K (rNotInD K) oNinD := fun H x y d e P Q hx hy h k => by
  obtain ⟨l, rfl, k1, k2, p⟩ := h
  exact ⟨d.py, DD.pys l, hx.dp (okD_of k1).1, hy.dp (okD_of k2).1, (okD_of k1).2, (okD_of k2).2, by rw [any_pys]; exact k _ _ p (.bl _)⟩
theorem p_inD {k : Nat} (hr : RoomG (k + 1) X.A) (ha : PDo X io a fa) (hb : PDo X io b fb) (hm : behindInMarks .In b = false := by rfl) : PDv X io (.Compare a [.In] [b] pos) (fBin oInD fa fb) := p_cmp (op_inD (u65 hr)) sc_inD hm ha hb
theorem p_ninD {k : Nat} (hr : RoomG (k + 1) X.A) (ha : PDo X io a fa) (hb : PDo X io b fb) (hm : behindInMarks .NotIn b = false := by rfl) : PDv X io (.Compare a [.NotIn] [b] pos) (fBin oNinD fa fb) := p_cmp (op_notInD (u65 hr)) sc_ninD hm ha hb
theorem q_inD {k : Nat} (hr : RoomG (k + 1) X.A) (ha : PDo X io a fa) (hb : PDo X io b fb) (hm : behindInMarks .In b = false := by rfl) : PDt X io (.Compare a [.In] [b] pos) (fTst (fBin oInD fa fb)) := t_cmp (op_inD (u65 hr)) sc_inD hm ha hb
theorem q_ninD {k : Nat} (hr : RoomG (k + 1) X.A) (ha : PDo X io a fa) (hb : PDo X io b fb) (hm : behindInMarks .NotIn b = false := by rfl) : PDt X io (.Compare a [.NotIn] [b] pos) (fTst (fBin oNinD fa fb)) := t_cmp (op_notInD (u65 hr)) sc_ninD hm ha hb
end
end DL

namespace DL
open PySem PySem.Spec PyProof.Rows L2
/-! ### what a fallible expression is worth, as data -/
section
variable {X : Cx} {W : WX} {io : List Nat} {e : Expr}
@[simp] def fFrzX (fe : FEx) : FEx := fun Wd ρ Q => fe Wd ρ fun r ρ' => Q (.dat r.data) ρ'
theorem ex_frz {fe : FEx} (h : PDex X W io e fe) : PDex X W io e (fFrzX fe) := by
  obtain ⟨te, h1, h2⟩ := h
  refine ⟨te, h1, fun B G H σ ρ fp Qd Q Wd hB R hf sx k => h2 B G H σ ρ fp _ Q Wd hB R hf sx fun r ρ' v G' H' fp' fr n ot t1 t2 q => ?_⟩
  obtain ⟨n', rq⟩ := Nxt.sealed R n ot t1 t2
  exact k _ _ _ _ _ _ [] n' (.dat rq) (fun _ z => nomatch z) (fun _ z => nomatch z) q
end
end DL

namespace DL
open PySem PySem.Spec PyProof.Rows L2
/-! small words (told in K3, K7, K9 too) -/
theorem wh {c : FT} {f : FS} {D : DEnds} {ρ : Rho} (W T : Nat → Rho → Prop) (h0 : ∃ m, W m ρ) (h1 : ∀ m ρ, W m ρ → ∀ g : Rho → Prop, (∀ ρ, T m ρ → g ρ) → c ρ fun b ρ1 => if b = true then g ρ1 else D.nx ρ1)
    (h2 : ∀ m ρ, T m ρ → f { D with nx := fun ρ' => ∃ m', m' < m ∧ W m' ρ', ct := fun ρ' => ∃ m', m' < m ∧ W m' ρ', bk := D.nx } ρ) : fWhile c f D ρ := ⟨W, h0, fun m ρ w => h1 m ρ w _ (h2 m)⟩
theorem halt {f : FS} {D : DEnds} {ρ : Rho} (h : ∀ g : Rho → Prop, (∀ ρ, D.nx ρ → g ρ) → f { D with nx := g } ρ) : f D ρ := h D.nx fun _ z => z
theorem if_go {c : FT} {f g : FS} {D : DEnds} {ρ : Rho} (b : Bool) (hc : ∀ Q : Bool → Rho → Prop, Q b ρ → c ρ Q) (h : if b = true then f D ρ else g D ρ) : fIf c f g D ρ := hc _ h
theorem lc_filt {fg : FG} {ft : FT} {fe : FE} {vs : List Nat} {ds : List DD} {Q : SV → Rho → Prop} {ρ1 : Rho} (p : DD → Bool) (g : DD → SV) (hl : ds.length ≤ sizeLine) (hp : plainB ρ1 vs = true)
    (hs : ∀ d ∈ ds, ∀ (R : SV → Rho → Prop) (S : Rho → Prop), (p d = true → R (g d) ρ1) → (p d = false → S ρ1) → fg d (wipeR ρ1 vs) fun ρ2 => ft ρ2 fun b ρ3 => if b = true then fe ρ3 fun r ρ4 => R r (unwipe ρ4 ρ1 vs) else S (unwipe ρ3 ρ1 vs))
    (hd : Q (.own ((ds.filter p).map g)) ρ1) : lcB fg ft fe vs ds Q ρ1 := by
  refine lc_inv (fun i acc ρ => ρ = ρ1 ∧ acc = ((ds.take i).filter p).map g) ⟨rfl, rfl⟩ ?_ ?_
  · rintro i d acc ρ hi ⟨rfl, rfl⟩
    refine ⟨hp, ?_⟩
    have hlt := (List.getElem?_eq_some_iff.mp hi).1
    have lf := List.length_filter_le p (ds.take i)
    have lt : (ds.take i).length ≤ i := by simp; omega
    exact hs d (List.mem_of_getElem? hi) (fun r ρ' => (((ds.take i).filter p).map g).length < sizeLine ∧ ρ' = ρ ∧ ((ds.take i).filter p).map g ++ [r] = ((ds.take (i + 1)).filter p).map g) (fun ρ' => ρ' = ρ ∧ ((ds.take i).filter p).map g = ((ds.take (i + 1)).filter p).map g)
      (fun e => ⟨by rw [List.length_map]; omega, rfl, by rw [List.take_add_one, hi]; simp [e]⟩) (fun e => ⟨rfl, by rw [List.take_add_one, hi]; simp [e]⟩)
  · rintro acc ρ ⟨rfl, rfl⟩
    rw [List.take_length]
    exact hd
theorem if_cut {c : FT} {f g : FS} {D : DEnds} {ρ : Rho} (T E : Rho → Prop) (hc : ∀ P N : Rho → Prop, (∀ ρ, T ρ → P ρ) → (∀ ρ, E ρ → N ρ) → c ρ fun b ρ1 => if b = true then P ρ1 else N ρ1) (hf : ∀ ρ, T ρ → f D ρ) (hg : ∀ ρ, E ρ → g D ρ) : fIf c f g D ρ := hc (f D) (g D) hf hg
/-! ### fractions with a common denominator -/
def Dn (D : Nat) (x : Rat) : Prop := ∃ n : Int, x * (D : Rat) = (n : Rat)
theorem ncast (n : Nat) : (((n : Nat) : Int) : Rat) = (n : Rat) := rfl
theorem Dn.add {D : Nat} {x y : Rat} (h : Dn D x) (h' : Dn D y) : Dn D (x + y) := by
  obtain ⟨n, e⟩ := h
  obtain ⟨m, e'⟩ := h'
  exact ⟨n + m, by rw [Rat.add_mul, e, e', Rat.intCast_add]⟩
theorem Dn.neg {D : Nat} {x : Rat} (h : Dn D x) : Dn D (-x) := by
  obtain ⟨n, e⟩ := h
  exact ⟨-n, by rw [Rat.neg_mul, e, Rat.intCast_neg]⟩
theorem Dn.mul {D E : Nat} {x y : Rat} (h : Dn D x) (h' : Dn E y) : Dn (D * E) (x * y) := by
  obtain ⟨n, e⟩ := h
  obtain ⟨m, e'⟩ := h'
  refine ⟨n * m, ?_⟩
  rw [Rat.intCast_mul, ← e, ← e']
  have : ((D * E : Nat) : Rat) = (D : Rat) * (E : Rat) := by exact_mod_cast rfl
  rw [this]
  grind
theorem Dn.mono {D E : Nat} {x : Rat} (h : Dn D x) (d : D ∣ E) : Dn E x := by
  obtain ⟨n, e⟩ := h
  obtain ⟨k, rfl⟩ := d
  refine ⟨n * k, ?_⟩
  have : ((D * k : Nat) : Rat) = (D : Rat) * (k : Rat) := by exact_mod_cast rfl
  rw [this, Rat.intCast_mul, ← e, ncast]
  grind
theorem Dn.int (D : Nat) (i : Int) : Dn D (i : Rat) := ⟨i * D, by rw [Rat.intCast_mul]; rfl⟩
theorem Dn.self (x : Rat) : Dn x.den x := ⟨x.num, by have := rat_dn x; grind⟩
theorem Dn.dvd {D : Nat} {x : Rat} (h : Dn D x) (d0 : 0 < D) : x.den ∣ D := by
  obtain ⟨n, e⟩ := h
  have dz : (D : Rat) ≠ 0 := by
    have : (D : Int) ≠ 0 := by omega
    have h2 : (((D : Nat) : Int) : Rat) ≠ 0 := by exact_mod_cast this
    exact h2
  have ex : x = Rat.divInt n (D : Int) := by
    rw [Rat.divInt_eq_div, ncast, ← e]
    grind
  rw [ex, Rat.den_divInt, if_neg (by omega)]
  exact Nat.div_dvd_of_dvd (Nat.gcd_dvd_left _ _)
/-- x by y: times the number of y -/
theorem Dn.inv (y : Rat) (h : 0 < y) : Dn y.num.toNat y⁻¹ := by
  have p : 0 < y.num := by
    have : 0 ≤ y.num := Rat.num_nonneg.mpr (by grind)
    have : y.num ≠ 0 := fun z => by
      have := Rat.num_eq_zero.mp z
      grind
    omega
  refine ⟨(y.den : Int), ?_⟩
  have e := rat_dn y
  have e2 : ((y.num.toNat : Nat) : Rat) = (y.num : Rat) := by
    rw [← ncast, Int.toNat_of_nonneg (by omega)]
  rw [e2, ← e, ncast]
  have : y ≠ 0 := by grind
  grind
/-! ### tanks and steps -/
structure Vat where
  w : Option Int
  a : Int
def Vat.d (v : Vat) : DD := .tup [match v.w with
  | none => .non
  | some i => .int i, .int v.a]
def Vat.ok (v : Vat) : Prop := 0 ≤ v.a ∧ v.a ≤ 1000 ∧ ∀ i, v.w = some i → 1 ≤ i ∧ i ≤ 1000
def isNon : DD → Bool
  | .tup (.non :: _) => true
  | _ => false
structure VatsOk (vs : List Vat) : Prop where
  n : 1 ≤ vs.length ∧ vs.length ≤ 20
  v : ∀ v ∈ vs, v.ok
  one : (vs.filter fun v => v.w.isNone).length = 1
inductive Deed where
  | op (ks : List Nat)
  | pr (k : Nat) (a : Int)
  | sc (k : Nat) (p : Rat)
  | mv (i j : Nat) (p : Rat)
  | un (i j : Nat)
def nI (ks : List Nat) : List Int := ks.map fun (k : Nat) => (k : Int)
def Deed.d : Deed → DD
  | .op ks => .tup [.str "open", dI (nI ks)]
  | .pr k a => .tup [.str "pour", .int k, .int a]
  | .sc k p => .tup [.str "scoop", .int k, rT p]
  | .mv i j p => .tup [.str "move", .int i, .int j, rT p]
  | .un i j => .tup [.str "unless", .int i, .int j]
theorem okD_deed (e : Deed) : okD e.d = true := by
  cases e <;> simp [Deed.d, dI, rT, okD, DD.pure, DD.pures, DD.py, DD.pys, SeqAt.shaped, PyData.canLay0, PyData.canLayAll0, PyData.depth, PyData.depthAll, okD_ints] <;> decide +kernel
theorem eqD_deed (e : Deed) : ¬ eqD e.d (.tup []) = true := by
  cases e <;> simp [Deed.d, dI, rT, eqD, DD.py, DD.pys, PyData.eqv, PyData.eqvAll]
theorem nI_rise {ks : List Nat} (h : ks.Pairwise (· < ·)) : (nI ks).Pairwise (· < ·) := by
  unfold nI
  rw [List.pairwise_map]
  exact h.imp fun z => by omega
theorem nons_len (vs : List Vat) : ((vs.map Vat.d).filter isNon).length = (vs.filter fun v => v.w.isNone).length := by
  rw [List.filter_map, List.length_map]
  congr 1
  refine List.filter_congr fun v _ => ?_
  obtain ⟨w, a⟩ := v
  cases w <;> rfl
/-- a part of a whole -/
def Prt (p : Rat) : Prop := 0 ≤ p ∧ p ≤ 1 ∧ p.den ≤ 1000
def Deed.ok (n : Nat) : Deed → Prop
  | .op ks => 2 ≤ ks.length ∧ ks.length ≤ 20 ∧ ks.Pairwise (· < ·) ∧ ∀ k ∈ ks, k < n
  | .pr k a => k < n ∧ 0 ≤ a ∧ a ≤ 1000
  | .sc k p => k < n ∧ Prt p
  | .mv i j p => i < n ∧ j < n ∧ i ≠ j ∧ Prt p
  | .un i j => i < n ∧ j < n ∧ i ≠ j
def tSIZES : List (Str × Int) := [("open", 2), ("pour", 3), ("scoop", 3), ("move", 4), ("unless", 3)]
def sObj (C : Addr) (vs : List Vat) (ds : List Deed) : DD := .obj C [("kept_tanks", .tup (vs.map Vat.d)), ("kept_steps", .tup (ds.map Deed.d))]
/-! ### what a script comes to -/
def wid (x : Rat) (v : Vat) : Rat := match v.w with
  | none => x
  | some i => (i : Rat)
def dQ (l : List Rat) : DD := .lst (l.map rT)
def oQ (l : List Rat) : SV := .own (l.map fun q => SV.dat (rT q))
theorem oQ_data (l : List Rat) : (oQ l).data = dQ l := by
  unfold oQ dQ
  simp only [data_own, SV.datas_eq, List.map_map]
  congr 1
def sumK (u : List Rat) : List Nat → Rat
  | [] => 0
  | k :: ks => u.getD k 0 + sumK u ks
def putK (L : Rat) (ws : List Rat) (u : List Rat) (ks : List Nat) : List Rat := ks.foldl (fun f k => f.set k (L * ws.getD k 0)) u
def stepW (ws u : List Rat) : Deed → List Rat
  | .op ks => putK (sumK u ks / sumK ws ks) ws u ks
  | .pr k a => u.set k (u.getD k 0 + (a : Rat))
  | .sc k p => u.set k (u.getD k 0 + -(u.getD k 0 * p))
  | .mv i j p => (u.set i (u.getD i 0 + -(u.getD i 0 * p))).set j (u.getD j 0 + u.getD i 0 * p)
  | .un _ _ => u
def runW (ws : List Rat) (u : List Rat) (ds : List Deed) : List Rat := ds.foldl (stepW ws) u
theorem less_iff (x y : Rat) : x.num * (y.den : Int) < y.num * (x.den : Int) ↔ x < y := by
  rw [Rat.lt_iff]
@[simp] theorem w_open_pour : ¬ (Str.ofString "open" = Str.ofString "pour") := by decide
@[simp] theorem w_open_scoop : ¬ (Str.ofString "open" = Str.ofString "scoop") := by decide
@[simp] theorem w_open_move : ¬ (Str.ofString "open" = Str.ofString "move") := by decide
@[simp] theorem w_open_unless : ¬ (Str.ofString "open" = Str.ofString "unless") := by decide
@[simp] theorem w_pour_open : ¬ (Str.ofString "pour" = Str.ofString "open") := by decide
@[simp] theorem w_pour_scoop : ¬ (Str.ofString "pour" = Str.ofString "scoop") := by decide
@[simp] theorem w_pour_move : ¬ (Str.ofString "pour" = Str.ofString "move") := by decide
@[simp] theorem w_pour_unless : ¬ (Str.ofString "pour" = Str.ofString "unless") := by decide
@[simp] theorem w_scoop_open : ¬ (Str.ofString "scoop" = Str.ofString "open") := by decide
@[simp] theorem w_scoop_pour : ¬ (Str.ofString "scoop" = Str.ofString "pour") := by decide
@[simp] theorem w_scoop_move : ¬ (Str.ofString "scoop" = Str.ofString "move") := by decide
@[simp] theorem w_scoop_unless : ¬ (Str.ofString "scoop" = Str.ofString "unless") := by decide
@[simp] theorem w_move_open : ¬ (Str.ofString "move" = Str.ofString "open") := by decide
@[simp] theorem w_move_pour : ¬ (Str.ofString "move" = Str.ofString "pour") := by decide
@[simp] theorem w_move_scoop : ¬ (Str.ofString "move" = Str.ofString "scoop") := by decide
@[simp] theorem w_move_unless : ¬ (Str.ofString "move" = Str.ofString "unless") := by decide
@[simp] theorem w_unless_open : ¬ (Str.ofString "unless" = Str.ofString "open") := by decide
@[simp] theorem w_unless_pour : ¬ (Str.ofString "unless" = Str.ofString "pour") := by decide
@[simp] theorem w_unless_scoop : ¬ (Str.ofString "unless" = Str.ofString "scoop") := by decide
@[simp] theorem w_unless_move : ¬ (Str.ofString "unless" = Str.ofString "move") := by decide
/-! ### sizes -/
theorem qb_of {D k m : Nat} {y : Rat} (hd : Dn D y) (d0 : 0 < D) (sD : Sm k (D : Int)) (y0 : 0 ≤ y) (hy : y ≤ ((2 ^ m : Nat) : Rat)) : Qb (k + m + 1) y ∧ Sm k (y.den : Int) := by
  have hden : y.den ≤ D := Nat.le_of_dvd d0 (hd.dvd d0)
  have sd : Sm k (y.den : Int) := sD.le (by simpa using hden)
  have e := rat_dn y
  have n0 : 0 ≤ y.num := Rat.num_nonneg.mpr y0
  have key : y.num ≤ ((2 ^ m * y.den : Nat) : Int) := by
    have h : (y.num : Rat) ≤ (((2 ^ m * y.den : Nat) : Int) : Rat) := by
      have e2 : (((2 ^ m * y.den : Nat) : Int) : Rat) = ((2 ^ m : Nat) : Rat) * (y.den : Rat) := by
        rw [ncast]; exact_mod_cast rfl
      rw [e2, ← e]
      have dp : (0 : Rat) ≤ (y.den : Rat) := by
        have : (0 : Int) ≤ (y.den : Int) := by omega
        have h2 : ((0 : Int) : Rat) ≤ ((y.den : Int) : Rat) := by exact_mod_cast this
        rw [ncast, Rat.intCast_zero] at h2
        exact h2
      rw [Rat.mul_comm ((2 ^ m : Nat) : Rat)]
      exact Rat.mul_le_mul_of_nonneg_left hy dp
    exact_mod_cast h
  refine ⟨⟨?_, sd.mono (by omega)⟩, sd⟩
  have h1 : y.num.natAbs ≤ 2 ^ m * y.den := by omega
  have h2 : y.den < 2 ^ k := by unfold Sm at sd; simpa using sd
  unfold Sm
  have h3 : 2 ^ m * y.den ≤ 2 ^ m * 2 ^ k := Nat.mul_le_mul_left _ (Nat.le_of_lt h2)
  have h4 : 2 ^ m * 2 ^ k = 2 ^ (k + m) := by rw [← Nat.pow_add, Nat.add_comm]
  have h5 : 2 ^ (k + m) < 2 ^ (k + m + 1) := Nat.pow_lt_pow_right (by decide) (by omega)
  omega
theorem rat_div (x y : Rat) (h : 0 < y) : Rat.divInt (x.num * (y.den : Int)) ((x.den : Int) * y.num) = x / y := by
  have ex := rat_dn x
  have ey := rat_dn y
  have dx : (x.den : Rat) ≠ 0 := by
    have := rden x
    have h2 : (((x.den : Int)) : Rat) ≠ 0 := by exact_mod_cast this
    exact h2
  have dy : (y.den : Rat) ≠ 0 := by
    have := rden y
    have h2 : (((y.den : Int)) : Rat) ≠ 0 := by exact_mod_cast this
    exact h2
  have y0 : y ≠ 0 := by grind
  rw [Rat.divInt_eq_div, Rat.intCast_mul, Rat.intCast_mul, ← ex, ← ey, ncast, ncast]
  generalize (x.den : Rat) = a at *
  generalize (y.den : Rat) = b at *
  grind
theorem num_pos {y : Rat} (h : 0 < y) : 0 < y.num := by
  have h1 : 0 ≤ y.num := Rat.num_nonneg.mpr (by grind)
  have h2 : y.num ≠ 0 := fun z => by have := Rat.num_eq_zero.mp z; grind
  omega
theorem sumK_snoc (u : List Rat) (ks : List Nat) (k : Nat) : sumK u (ks ++ [k]) = sumK u ks + u.getD k 0 := by
  induction ks with
  | nil => simp only [List.nil_append, sumK]; rw [Rat.add_zero, Rat.zero_add]
  | cons a ks ih =>
    rw [List.cons_append, sumK, sumK, ih, Rat.add_assoc]
theorem sumK_dn {D : Nat} {u : List Rat} (h : ∀ q ∈ u, Dn D q) : ∀ ks : List Nat, Dn D (sumK u ks)
  | [] => by simpa [sumK] using Dn.int D 0
  | k :: ks => by
    rw [sumK]
    refine Dn.add ?_ (sumK_dn h ks)
    rw [List.getD_eq_getElem?_getD]
    by_cases hk : k < u.length
    · rw [List.getElem?_eq_getElem hk]; exact h _ (List.getElem_mem hk)
    · rw [List.getElem?_eq_none (by omega)]; simpa using Dn.int D 0
theorem getD_memQ {u : List Rat} {k : Nat} (hk : k < u.length) : u.getD k 0 ∈ u := by
  rw [List.getD_eq_getElem?_getD, List.getElem?_eq_getElem hk]
  exact List.getElem_mem hk
theorem sumK_bd {u : List Rat} {B : Rat} (h0 : ∀ q ∈ u, 0 ≤ q) (hB : ∀ q ∈ u, q ≤ B) : ∀ ks : List Nat, (∀ k ∈ ks, k < u.length) → 0 ≤ sumK u ks ∧ sumK u ks ≤ (ks.length : Rat) * B
  | [], _ => by simp [sumK]
  | k :: ks, h => by
    obtain ⟨h1, h2⟩ := sumK_bd h0 hB ks fun a m => h a (List.mem_cons_of_mem _ m)
    have m := getD_memQ (h k List.mem_cons_self)
    have a1 := h0 _ m
    have a2 := hB _ m
    have e : (((k :: ks).length : Nat) : Rat) = (ks.length : Rat) + 1 := by
      rw [List.length_cons]; exact_mod_cast rfl
    rw [sumK, e]
    constructor
    · grind
    · grind
theorem zipD_rats (u ws : List Rat) : zipD (u.map rT) (ws.map rT) = (u.zip ws).map fun p => DD.tup [rT p.1, rT p.2] := by
  induction u generalizing ws with
  | nil => simp [zipD]
  | cons a u ih =>
    cases ws with
    | nil => simp [zipD]
    | cons b ws =>
      have := ih ws
      simp only [zipD, List.map_cons, List.zip_cons_cons] at this ⊢
      rw [this]
def levD : DD → SV
  | .tup [.tup [.int a, .int b], .tup [.int c, .int d]] => .dat (rT (Rat.divInt (a * d) (b * c)))
  | _ => .dat .non
def widD (x : Rat) : DD → SV
  | .tup [.non, _] => .dat (rT x)
  | .tup [.int i, _] => .dat (rT (i : Rat))
  | _ => .dat .non
theorem widD_all (x : Rat) (vs : List Vat) : (vs.map Vat.d).map (widD x) = (vs.map (wid x)).map fun q => SV.dat (rT q) := by
  rw [List.map_map, List.map_map]
  refine List.map_congr_left fun v _ => ?_
  obtain ⟨w, a⟩ := v
  cases w <;> rfl
theorem ratsD_n {F : List Rat} {k : Nat} (h : k < F.length) : atI (F.map rT) (k : Int) = some (rT (F.getD k 0)) := by
  rw [atI_map, atI_nat h, List.getD_eq_getElem?_getD, List.getElem?_eq_getElem h]
  rfl
theorem ratsO_n {F : List Rat} {k : Nat} (h : k < F.length) : atI (F.map fun q => SV.dat (rT q)) (k : Int) = some (.dat (rT (F.getD k 0))) := by
  rw [atI_map, atI_nat h, List.getD_eq_getElem?_getD, List.getElem?_eq_getElem h]
  rfl
theorem putK_snoc (L : Rat) (ws u : List Rat) (ks : List Nat) (k : Nat) : putK L ws u (ks ++ [k]) = (putK L ws u ks).set k (L * ws.getD k 0) := by simp [putK]
theorem putK_len (L : Rat) (ws u : List Rat) (ks : List Nat) : (putK L ws u ks).length = u.length := by
  unfold putK
  induction ks generalizing u with
  | nil => rfl
  | cons k ks ih => rw [List.foldl_cons, ih]; simp
theorem nI_get {ks : List Nat} {i : Nat} {d : DD} (h : ((nI ks).map DD.int)[i]? = some d) : ∃ k, ks[i]? = some k ∧ d = .int k := by
  unfold nI at h
  rw [List.map_map, List.getElem?_map] at h
  cases e : ks[i]? with
  | none => rw [e] at h; cases h
  | some k => rw [e] at h; exact ⟨k, rfl, by simpa using h.symm⟩
theorem take_succ {α : Type} {l : List α} {i : Nat} {a : α} (h : l[i]? = some a) : l.take (i + 1) = l.take i ++ [a] := by
  rw [List.take_add_one, h]
  rfl
/-- sizes of waters: a common denominator -/
structure Wz (D : Nat) (u : List Rat) : Prop where
  d : ∀ q ∈ u, Dn D q
  p : ∀ q ∈ u, 0 ≤ q
  b : ∀ q ∈ u, q ≤ 100000
/-- widths -/
structure Wd (x : Rat) (ws : List Rat) : Prop where
  p : ∀ q ∈ ws, 0 < q
  b : ∀ q ∈ ws, q = x ∨ ∃ i : Int, q = (i : Rat) ∧ 1 ≤ i ∧ i ≤ 1000
theorem Wd.sz {x : Rat} {ws : List Rat} (h : Wd x ws) (hx : Qb 51 x) {q : Rat} (m : q ∈ ws) : Qb 51 q ∧ 0 < q ∧ Dn x.den q ∧ q ≤ ((2 ^ 51 : Nat) : Rat) := by
  have p := h.p q m
  rcases h.b q m with rfl | ⟨i, rfl, i1, i2⟩
  · refine ⟨hx, p, Dn.self q, ?_⟩
    have e := rat_dn q
    have n1 : q.num ≤ ((2 ^ 51 : Nat) : Int) := by
      have := hx.n
      unfold Sm at this
      omega
    have n2 : (q.num : Rat) ≤ (((2 ^ 51 : Nat) : Int) : Rat) := by exact_mod_cast n1
    rw [ncast] at n2
    have d1 : (1 : Int) ≤ (q.den : Int) := by have := q.den_pos; omega
    have d2 : ((1 : Int) : Rat) ≤ (((q.den : Nat) : Int) : Rat) := by exact_mod_cast d1
    rw [ncast, Rat.intCast_one] at d2
    have : q ≤ (q.den : Rat) * q := by
      have := Rat.mul_le_mul_of_nonneg_right d2 (show 0 ≤ q by grind)
      grind
    grind
  · refine ⟨Qb.int (sm_of (k := 51) (b := 1000) (by omega) (by omega)) (by decide), p, Dn.int _ _, ?_⟩
    have : i ≤ ((2 ^ 51 : Nat) : Int) := by omega
    have h2 : (i : Rat) ≤ (((2 ^ 51 : Nat) : Int) : Rat) := by exact_mod_cast this
    rw [ncast] at h2
    exact h2
theorem Wz.sz {D : Nat} {u : List Rat} (h : Wz D u) (d0 : 0 < D) (sD : Sm 4000 (D : Int)) {q : Rat} (m : q ∈ u) : Qb 4020 q ∧ Sm 4000 (q.den : Int) := by
  have b : q ≤ ((2 ^ 17 : Nat) : Rat) := by
    have h1 := h.b q m
    have h2 : ((100000 : Int) : Rat) ≤ (((2 ^ 17 : Nat) : Int) : Rat) := Rat.intCast_le_intCast.mpr (by decide)
    rw [ncast] at h2
    have h3 : ((100000 : Int) : Rat) = (100000 : Rat) := rfl
    rw [h3] at h2
    exact Rat.le_trans h1 h2
  obtain ⟨a, b⟩ := qb_of (m := 17) (h.d q m) d0 sD (h.p q m) b
  exact ⟨a.mono (by decide), b⟩
theorem levD_all (u ws : List Rat) (h : ∀ q ∈ ws, 0 < q) : ((u.zip ws).map fun p => DD.tup [rT p.1, rT p.2]).map levD = (List.zipWith (fun a b => a / b) u ws).map fun q => SV.dat (rT q) := by
  induction u generalizing ws with
  | nil => simp
  | cons a u ih =>
    cases ws with
    | nil => simp
    | cons b ws =>
      simp only [List.zip_cons_cons, List.map_cons, List.zipWith_cons_cons]
      rw [ih ws fun q m => h q (List.mem_cons_of_mem _ m)]
      congr 1
      show SV.dat (rT (Rat.divInt (a.num * (b.den : Int)) ((a.den : Int) * b.num))) = _
      rw [rat_div a b (h b List.mem_cons_self)]
theorem b20 {n m : Nat} {B : Rat} (hn : n ≤ 20) (h0 : 0 ≤ B) (hB : B ≤ ((2 ^ m : Nat) : Rat)) : (n : Rat) * B ≤ ((2 ^ (m + 5) : Nat) : Rat) := by
  have e : ((2 ^ (m + 5) : Nat) : Rat) = (32 : Rat) * ((2 ^ m : Nat) : Rat) := by
    rw [Nat.pow_add, Nat.mul_comm]
    exact_mod_cast rfl
  have h1 : (n : Rat) ≤ 32 := by
    have : (n : Int) ≤ 32 := by omega
    have := Rat.intCast_le_intCast.mpr this
    rw [ncast] at this
    exact this
  rw [e]
  have h2 := Rat.mul_le_mul_of_nonneg_right h1 h0
  have h3 : (32 : Rat) * B ≤ (32 : Rat) * ((2 ^ m : Nat) : Rat) := Rat.mul_le_mul_of_nonneg_left hB (by decide +kernel)
  exact Rat.le_trans h2 h3
theorem b17 : (100000 : Rat) ≤ ((2 ^ 17 : Nat) : Rat) := by
  have h2 : ((100000 : Int) : Rat) ≤ (((2 ^ 17 : Nat) : Int) : Rat) := Rat.intCast_le_intCast.mpr (by decide)
  rw [ncast] at h2
  exact h2
theorem sumW {D : Nat} {u : List Rat} (h : Wz D u) (d0 : 0 < D) (sD : Sm 4000 (D : Int)) {ks : List Nat} (hk : ∀ k ∈ ks, k < u.length) (hn : ks.length ≤ 20) : Qb 4030 (sumK u ks) ∧ Sm 4000 ((sumK u ks).den : Int) := by
  obtain ⟨h1, h2⟩ := sumK_bd h.p h.b ks hk
  obtain ⟨a, b⟩ := qb_of (m := 22) (sumK_dn h.d ks) d0 sD h1 (Rat.le_trans h2 (b20 hn (by decide +kernel) b17))
  exact ⟨a.mono (by decide), b⟩
theorem sumV {x : Rat} {ws : List Rat} (h : Wd x ws) (hx : Qb 51 x) {ks : List Nat} (hk : ∀ k ∈ ks, k < ws.length) (hn : ks.length ≤ 20) : Qb 120 (sumK ws ks) ∧ Sm 51 ((sumK ws ks).den : Int) := by
  obtain ⟨h1, h2⟩ := sumK_bd (B := ((2 ^ 51 : Nat) : Rat)) (fun q m => by have := h.p q m; grind) (fun q m => (h.sz hx m).2.2.2) ks hk
  have p0 : (0 : Rat) ≤ ((2 ^ 51 : Nat) : Rat) := by
    have h2 : ((0 : Int) : Rat) ≤ (((2 ^ 51 : Nat) : Int) : Rat) := Rat.intCast_le_intCast.mpr (by decide)
    rw [ncast] at h2
    exact h2
  obtain ⟨a, b⟩ := qb_of (m := 56) (sumK_dn (fun q m => (h.sz hx m).2.2.1) ks) x.den_pos hx.d h1 (Rat.le_trans h2 (b20 hn p0 Rat.le_refl))
  exact ⟨a.mono (by decide), b⟩
theorem sumV_nn {ws : List Rat} (h : ∀ q ∈ ws, 0 < q) : ∀ ks : List Nat, (∀ k ∈ ks, k < ws.length) → 0 ≤ sumK ws ks
  | [], _ => by simp [sumK]
  | a :: ks, hk => by
    have h4 := h _ (getD_memQ (hk a List.mem_cons_self))
    have h5 := sumV_nn h ks fun b m => hk b (List.mem_cons_of_mem _ m)
    rw [sumK]
    grind
theorem sumV_pos {ws : List Rat} (h : ∀ q ∈ ws, 0 < q) {ks : List Nat} (hk : ∀ k ∈ ks, k < ws.length) (h0 : ks ≠ []) : 0 < sumK ws ks := by
  cases ks with
  | nil => exact absurd rfl h0
  | cons k ks =>
    have h1 := h _ (getD_memQ (hk k List.mem_cons_self))
    have h3 := sumV_nn h ks fun b m => hk b (List.mem_cons_of_mem _ m)
    rw [sumK]
    grind
/-- a quotient's sizes -/
theorem div_sz {x y : Rat} {k l : Nat} (hx : Qb k x) (hy : Qb l y) (h : 0 < y) (dx : Sm m (x.den : Int)) : Qb (k + l) (x / y) ∧ Sm (m + l) ((x / y).den : Int) := by
  have n0 := num_pos h
  have z : (x.den : Int) * y.num ≠ 0 := Int.mul_ne_zero (rden x) (by omega)
  rw [← rat_div x y h]
  refine ⟨Qb.of ((hx.n.mul hy.d)) (hx.d.mul hy.n) z, ?_⟩
  rw [Rat.den_divInt, if_neg z]
  exact (dx.mul hy.n).le (by simp only [Int.natAbs_natCast]; exact Nat.div_le_self _ _)
theorem setO {f : List Rat} {k : Nat} {q : Rat} : (f.map fun q => SV.dat (rT q)).set k (.dat (rT q)) = (f.set k q).map fun q => SV.dat (rT q) := by rw [List.map_set]
theorem Prt.sz {p : Rat} (h : Prt p) : Qb 11 p ∧ Sm 10 (p.den : Int) := by
  obtain ⟨h0, h1, h2⟩ := h
  have e := rat_dn p
  have n0 : 0 ≤ p.num := Rat.num_nonneg.mpr h0
  have sd : Sm 10 (p.den : Int) := sm_of (b := 1000) (by omega) (by omega)
  have n1 : p.num ≤ (p.den : Int) := by
    have dp : (0 : Rat) ≤ (p.den : Rat) := by
      have h2 : ((0 : Int) : Rat) ≤ (((p.den : Nat) : Int) : Rat) := Rat.intCast_le_intCast.mpr (by omega)
      rw [ncast, Rat.intCast_zero] at h2
      exact h2
    have : (p.den : Rat) * p ≤ (p.den : Rat) * 1 := Rat.mul_le_mul_of_nonneg_left h1 dp
    rw [e, Rat.mul_one, ← ncast] at this
    exact Rat.intCast_le_intCast.mp this
  exact ⟨⟨(sm_of (k := 11) (b := 1000) (by omega) (by omega)), sd.mono (by decide)⟩, sd⟩
theorem Prt.n0 {p : Rat} (h : Prt p) : 0 ≤ p.num := Rat.num_nonneg.mpr h.1
theorem Prt.n1 {p : Rat} (h : Prt p) : p.num ≤ (p.den : Int) := by
  obtain ⟨h0, h1, h2⟩ := h
  have e := rat_dn p
  have dp : (0 : Rat) ≤ (p.den : Rat) := by
    have h2 : ((0 : Int) : Rat) ≤ (((p.den : Nat) : Int) : Rat) := Rat.intCast_le_intCast.mpr (by omega)
    rw [ncast, Rat.intCast_zero] at h2
    exact h2
  have : (p.den : Rat) * p ≤ (p.den : Rat) * 1 := Rat.mul_le_mul_of_nonneg_left h1 dp
  rw [e, Rat.mul_one, ← ncast] at this
  exact Rat.intCast_le_intCast.mp this
/-- a step, its list of tanks held by it alone -/
def Deed.t : Deed → SV
  | .op ks => .tp [.dat (.str "open"), oI (nI ks)]
  | e => .dat e.d
theorem cp_deed (e : Deed) : cp e.d = e.t := by
  cases e with
  | op ks =>
    have h : noLs [DD.str "open", dI (nI ks)] = false := by simp [noLs, noL, dI]
    simp only [Deed.d, Deed.t, cp, h, cps, cp_dI]
    rfl
  | _ => simp [Deed.d, Deed.t, cp, noLs, noL, rT]
theorem Deed.t_data (e : Deed) : e.t.data = e.d := by
  rw [← cp_deed]
  exact cp_data e.d
theorem cp_deeds (ds : List Deed) : (ds.map Deed.d).map cp = ds.map Deed.t := by
  rw [List.map_map]
  exact List.map_congr_left fun e _ => cp_deed e
theorem deeds_data (ds : List Deed) : (ds.map Deed.t).map SV.data = ds.map Deed.d := by
  rw [List.map_map]
  exact List.map_congr_left fun e _ => e.t_data
@[simp] theorem ixN21 : ixN 2 1 = some 1 := rfl
@[simp] theorem ixN20 : ixN 2 0 = some 0 := rfl
@[simp] theorem tp_data (ts : List SV) : (SV.tp ts).data = .tup (ts.map SV.data) := by rw [SV.data, SV.datas_eq]
@[simp] theorem flat_nonD : flatT (.dat .non) = true := rfl
@[simp] theorem flat_blD (b : Bool) : flatT (.dat (.bl b)) = true := rfl
@[simp] theorem flat_intD (i : Int) : flatT (.dat (.int i)) = true := rfl
@[simp] theorem flat_strD (x : Str) : flatT (.dat (.str x)) = true := rfl
@[simp] theorem flat_rT (q : Rat) : flatT (.dat (rT q)) = true := rfl
theorem flat_deed (e : Deed) : flatT e.t = true := by
  cases e with
  | op ks => simp [Deed.t, flatT, flatTs, noL]
  | _ => simp [Deed.t, Deed.d, flatT, noL, noLs, rT]
theorem okC_deed {n m : Nat} {e : Deed} (h : e.ok m) (hm : m ≤ 20) : okC (n + 4) e.d := by
  cases e with
  | op ks =>
    have l : (nI ks).length ≤ 1000 := by have := h.2.1; simp [nI]; omega
    refine ⟨by simp, fun d m => ?_⟩
    rcases List.mem_cons.mp m with rfl | m
    · exact trivial
    · have : d = dI (nI ks) := by simpa using m
      subst this
      exact okC_ints (n := n + 1) l
  | pr k a =>
    refine ⟨by simp, fun d m => ?_⟩
    simp at m
    rcases m with rfl | rfl | rfl <;> exact trivial
  | sc k p =>
    refine ⟨by simp, fun d m => ?_⟩
    simp at m
    rcases m with rfl | rfl | rfl
    · exact trivial
    · exact trivial
    · exact okC_rat (n := n + 1)
  | mv i j p =>
    refine ⟨by simp, fun d m => ?_⟩
    simp at m
    rcases m with rfl | rfl | rfl | rfl
    · exact trivial
    · exact trivial
    · exact trivial
    · exact okC_rat (n := n + 1)
  | un i j =>
    refine ⟨by simp, fun d m => ?_⟩
    simp at m
    rcases m with rfl | rfl | rfl <;> exact trivial
theorem rT_neg (m : Rat) : rT (-m) = .tup [.int (-m.num), .int m.den] := by simp [rT]
theorem Qb.neg {k : Nat} {m : Rat} (h : Qb k m) : Qb k (-m) := ⟨by rw [show (-m).num = -m.num from rfl]; exact h.n.neg, h.d⟩
theorem den_le2 {a b : Int} (h : b ≠ 0) {k : Nat} (hb : Sm k b) : Sm k ((Rat.divInt a b).den : Int) := by
  rw [Rat.den_divInt, if_neg h]
  exact hb.le (by simp only [Int.natAbs_natCast]; exact Nat.div_le_self _ _)
theorem den_mul2 (x y : Rat) {k l : Nat} (hx : Sm k (x.den : Int)) (hy : Sm l (y.den : Int)) : Sm (k + l) ((x * y).den : Int) := by
  rw [← rat_mul]
  refine den_le2 ?_ (hx.mul hy)
  exact Int.mul_ne_zero (rden x) (rden y)
/-! ### all water -/
def tot : List Rat → Rat
  | [] => 0
  | a :: l => a + tot l
theorem tot_set : ∀ {u : List Rat} {k : Nat} (v : Rat), k < u.length → tot (u.set k v) = tot u - u.getD k 0 + v
  | [], k, v, h => by simp at h
  | a :: u, 0, v, h => by
    simp only [List.set_cons_zero, tot, List.getD_cons_zero]
    grind
  | a :: u, k + 1, v, h => by
    have := tot_set (u := u) (k := k) v (by simpa using h)
    simp only [List.set_cons_succ, tot, List.getD_cons_succ, this]
    grind
theorem tot_nn : ∀ {u : List Rat}, (∀ q ∈ u, 0 ≤ q) → 0 ≤ tot u
  | [], _ => by simp [tot]
  | a :: u, h => by
    have h1 := h a List.mem_cons_self
    have h2 := tot_nn (u := u) fun q m => h q (List.mem_cons_of_mem _ m)
    simp only [tot]
    grind
theorem tot_ge : ∀ {u : List Rat}, (∀ q ∈ u, 0 ≤ q) → ∀ q ∈ u, q ≤ tot u
  | [], _, q, m => by cases m
  | a :: u, h, q, m => by
    have h1 := h a List.mem_cons_self
    have h2 := tot_nn (u := u) fun q m => h q (List.mem_cons_of_mem _ m)
    simp only [tot]
    rcases List.mem_cons.mp m with rfl | m
    · grind
    · have := tot_ge (u := u) (fun q m => h q (List.mem_cons_of_mem _ m)) q m
      grind
theorem set_all {P : Rat → Prop} {u : List Rat} (h : ∀ q ∈ u, P q) {k : Nat} {v : Rat} (hv : P v) : ∀ q ∈ u.set k v, P q := fun q m => by
  rcases List.mem_or_eq_of_mem_set m with m | rfl
  · exact h q m
  · exact hv
theorem putK_all {P : Rat → Prop} (L : Rat) (ws : List Rat) : ∀ {ks : List Nat} {u : List Rat}, (∀ q ∈ u, P q) → (∀ k ∈ ks, P (L * ws.getD k 0)) → ∀ q ∈ putK L ws u ks, P q
  | [], u, h, _ => h
  | k :: ks, u, h, hk => putK_all L ws (ks := ks) (u := u.set k (L * ws.getD k 0)) (set_all h (hk k List.mem_cons_self)) fun j m => hk j (List.mem_cons_of_mem _ m)
theorem getD_setne {u : List Rat} {k j : Nat} {v : Rat} (h : k ≠ j) : (u.set k v).getD j 0 = u.getD j 0 := by
  rw [List.getD_eq_getElem?_getD, List.getElem?_set_ne h, ← List.getD_eq_getElem?_getD]
theorem getD_seteq {u : List Rat} {k : Nat} {v : Rat} (h : k < u.length) : (u.set k v).getD k 0 = v := by
  rw [List.getD_eq_getElem?_getD, List.getElem?_set_self h]
  rfl
theorem sumK_set {u : List Rat} {k : Nat} {v : Rat} : ∀ {ks : List Nat}, k ∉ ks → sumK (u.set k v) ks = sumK u ks
  | [], _ => rfl
  | j :: ks, h => by
    rw [sumK, sumK, sumK_set (ks := ks) fun m => h (List.mem_cons_of_mem _ m), getD_setne fun e => h (by rw [e]; exact List.mem_cons_self)]
theorem tot_putK (L : Rat) (ws : List Rat) : ∀ {ks : List Nat} {u : List Rat}, ks.Pairwise (· < ·) → (∀ k ∈ ks, k < u.length) → tot (putK L ws u ks) = tot u - sumK u ks + L * sumK ws ks
  | [], u, _, _ => by
    show tot u = tot u - 0 + L * 0
    grind
  | k :: ks, u, hp, hk => by
    obtain ⟨h1, h2⟩ := List.pairwise_cons.mp hp
    have nk : k ∉ ks := fun m => by have := h1 k m; omega
    have ih := tot_putK L ws (ks := ks) (u := u.set k (L * ws.getD k 0)) h2 fun j m => by simpa using hk j (List.mem_cons_of_mem _ m)
    show tot (putK L ws (u.set k (L * ws.getD k 0)) ks) = _
    rw [ih, tot_set _ (hk k List.mem_cons_self), sumK_set nk, sumK, sumK]
    grind
theorem putK_get (L : Rat) (ws : List Rat) : ∀ {ks : List Nat} {u : List Rat}, ks.Pairwise (· < ·) → (∀ k ∈ ks, k < u.length) → ∀ j, (putK L ws u ks).getD j 0 = if j ∈ ks then L * ws.getD j 0 else u.getD j 0
  | [], u, _, _, j => by simp [putK]
  | k :: ks, u, hp, hk, j => by
    obtain ⟨h1, h2⟩ := List.pairwise_cons.mp hp
    have nk : k ∉ ks := fun m => by have := h1 k m; omega
    have ih := putK_get L ws (ks := ks) (u := u.set k (L * ws.getD k 0)) h2 (fun j m => by simpa using hk j (List.mem_cons_of_mem _ m)) j
    show (putK L ws (u.set k (L * ws.getD k 0)) ks).getD j 0 = _
    rw [ih]
    by_cases e : j = k
    · subst e
      rw [if_neg nk, if_pos List.mem_cons_self, getD_seteq (hk j List.mem_cons_self)]
    · rw [getD_setne fun z => e z.symm]
      by_cases m : j ∈ ks
      · rw [if_pos m, if_pos (List.mem_cons_of_mem _ m)]
      · rw [if_neg m, if_neg fun z => (List.mem_cons.mp z).elim e m]
theorem Dn.of_mul {D n : Nat} {a b : Rat} (ha : Dn D a) {i : Int} (hb : b * (n : Rat) = (i : Rat)) : Dn (D * n) (a * b) := by
  obtain ⟨j, e⟩ := ha
  refine ⟨j * i, ?_⟩
  have : ((D * n : Nat) : Rat) = (D : Rat) * (n : Rat) := by exact_mod_cast rfl
  rw [this, Rat.intCast_mul, ← e, ← hb]
  grind
/-- what the widths of some tanks come to, times their denominator -/
theorem wide_int {x : Rat} {ws : List Rat} (h : Wd x ws) (hx : Qb 51 x) {ks : List Nat} (hk : ∀ k ∈ ks, k < ws.length) (hn : ks.length ≤ 20) (h0 : ks ≠ []) : ∃ n : Nat, 0 < n ∧ n < 2 ^ 66 ∧ sumK ws ks * (x.den : Rat) = (n : Rat) := by
  obtain ⟨i, e⟩ := sumK_dn (fun q m => (h.sz hx m).2.2.1) ks
  have vp := sumV_pos h.p hk h0
  have dp : (0 : Rat) < (x.den : Rat) := by
    have h2 : ((0 : Int) : Rat) < (((x.den : Nat) : Int) : Rat) := Rat.intCast_lt_intCast.mpr (by have := x.den_pos; omega)
    rw [ncast, Rat.intCast_zero] at h2
    exact h2
  have ip : 0 < i := by
    have : (0 : Rat) < (i : Rat) := by rw [← e]; exact Rat.mul_pos vp dp
    rw [← Rat.intCast_zero] at this
    exact Rat.intCast_lt_intCast.mp this
  have xb : ∀ q ∈ ws, q * (x.den : Rat) ≤ ((2 ^ 61 : Nat) : Rat) := fun q m => by
    have sd : (x.den : Int) < 2 ^ 51 := by
      have := hx.d
      unfold Sm at this
      omega
    rcases h.b q m with rfl | ⟨j, rfl, j1, j2⟩
    · rw [Rat.mul_comm, rat_dn]
      have n1 : q.num ≤ ((2 ^ 61 : Nat) : Int) := by
        have := hx.n
        unfold Sm at this
        omega
      have n2 := Rat.intCast_le_intCast.mpr n1
      rw [ncast] at n2
      exact n2
    · rw [← ncast, ← Rat.intCast_mul]
      have n1 : j * (x.den : Int) ≤ ((2 ^ 61 : Nat) : Int) := by
        have : j * (x.den : Int) ≤ 1000 * (x.den : Int) := Int.mul_le_mul_of_nonneg_right j2 (by omega)
        omega
      have n2 := Rat.intCast_le_intCast.mpr n1
      rw [ncast] at n2
      exact n2
  have sb : ∀ ks : List Nat, (∀ k ∈ ks, k < ws.length) → sumK ws ks * (x.den : Rat) ≤ (ks.length : Rat) * ((2 ^ 61 : Nat) : Rat) := by
    intro ks
    induction ks with
    | nil => intro _; simp [sumK]
    | cons k ks ih =>
      intro hk
      have a1 := ih fun a m => hk a (List.mem_cons_of_mem _ m)
      have a2 := xb _ (getD_memQ (hk k List.mem_cons_self))
      have e : (((k :: ks).length : Nat) : Rat) = (ks.length : Rat) + 1 := by
        rw [List.length_cons]; exact_mod_cast rfl
      rw [sumK, e, Rat.add_mul, Rat.add_mul, Rat.one_mul, Rat.add_comm]
      grind
  have b1 := sb ks hk
  rw [e] at b1
  have b2 : (i : Rat) ≤ (((20 * 2 ^ 61 : Nat) : Int) : Rat) := by
    have l1 : (ks.length : Rat) * ((2 ^ 61 : Nat) : Rat) = (((ks.length * 2 ^ 61 : Nat) : Int) : Rat) := by
      rw [ncast]; exact_mod_cast rfl
    rw [l1] at b1
    refine Rat.le_trans b1 (Rat.intCast_le_intCast.mpr ?_)
    have := Nat.mul_le_mul_right (2 ^ 61) hn
    omega
  have b3 := Rat.intCast_le_intCast.mp b2
  refine ⟨i.toNat, by omega, by omega, ?_⟩
  rw [e, ← ncast, Int.toNat_of_nonneg (by omega)]
theorem inv_nn {v : Rat} (h : 0 < v) : 0 ≤ v⁻¹ := by
  rcases Rat.le_total (a := 0) (b := v⁻¹) with z | z
  · exact z
  · have h1 := Rat.mul_le_mul_of_nonneg_left z (show 0 ≤ v by grind)
    have : v ≠ 0 := by grind
    have h2 : v * v⁻¹ = 1 := by grind
    rw [h2, Rat.mul_zero] at h1
    exact absurd h1 (by decide +kernel)
def poured : Deed → Int
  | .pr _ a => a
  | _ => 0
structure Grow (D : Nat) (e : Deed) (u v : List Rat) (m : Nat) : Prop where
  m0 : 0 < m
  m1 : m < 2 ^ 66
  d : ∀ q ∈ v, Dn (D * m) q
  p : ∀ q ∈ v, 0 ≤ q
  t : tot v ≤ tot u + (poured e : Rat)
  l : v.length = u.length
theorem part_dn {D : Nat} {a p : Rat} (h : Dn D a) : Dn (D * p.den) (a * p) := h.mul (Dn.self p)
theorem getD_dn {D : Nat} {u : List Rat} (h : ∀ q ∈ u, Dn D q) {k : Nat} (hk : k < u.length) : Dn D (u.getD k 0) := h _ (getD_memQ hk)
theorem step_ok {x : Rat} {D : Nat} {ws u : List Rat} {e : Deed} (h : Wd x ws) (hx : Qb 51 x) (hl : ws.length = u.length) (he : e.ok u.length) (hd : ∀ q ∈ u, Dn D q) (hp : ∀ q ∈ u, 0 ≤ q) : ∃ m, Grow D e u (stepW ws u e) m := by
  cases e with
  | un i j => exact ⟨1, by decide, by decide, by rw [Nat.mul_one]; exact hd, hp, by show tot u ≤ tot u + ((0 : Int) : Rat); rw [Rat.intCast_zero]; grind, rfl⟩
  | op ks =>
    obtain ⟨k1, k2, k3, k4⟩ := he
    have kw : ∀ k ∈ ks, k < ws.length := fun k m => by rw [hl]; exact k4 k m
    have k0 : ks ≠ [] := fun e => by rw [e] at k1; simp at k1
    obtain ⟨n, n0, n1, en⟩ := wide_int h hx kw k2 k0
    have vp := sumV_pos h.p kw k0
    have wn : 0 ≤ sumK u ks := (sumK_bd (B := tot u) hp (tot_ge hp) ks k4).1
    have ln : 0 ≤ sumK u ks / sumK ws ks := by
      rw [Rat.div_def]
      exact Rat.mul_nonneg wn (inv_nn vp)
    refine ⟨n, n0, n1, ?_, ?_, ?_, putK_len _ _ _ _⟩
    · refine putK_all _ ws (fun q m => (hd q m).mono ⟨n, rfl⟩) fun k m => ?_
      have ww := (h.sz hx (getD_memQ (kw k m))).2.2.1
      obtain ⟨i, ei⟩ := ww
      have : sumK u ks / sumK ws ks * ws.getD k 0 = sumK u ks * (ws.getD k 0 / sumK ws ks) := by
        rw [Rat.div_def, Rat.div_def]; grind
      rw [this]
      refine (sumK_dn hd ks).of_mul (i := i) ?_
      rw [← ei, ← en]
      have : sumK ws ks ≠ 0 := by grind
      grind
    · refine putK_all _ ws hp fun k m => ?_
      have := h.p _ (getD_memQ (kw k m))
      exact Rat.mul_nonneg ln (by grind)
    · have e : tot (stepW ws u (.op ks)) = tot u - sumK u ks + sumK u ks / sumK ws ks * sumK ws ks := tot_putK _ ws k3 k4
      rw [e]
      have : sumK ws ks ≠ 0 := by grind
      have : sumK u ks / sumK ws ks * sumK ws ks = sumK u ks := by grind
      rw [this]
      show _ ≤ tot u + ((0 : Int) : Rat)
      rw [Rat.intCast_zero]
      grind
  | pr k a =>
    obtain ⟨k1, k2, k3⟩ := he
    have a0 : (0 : Rat) ≤ (a : Rat) := by
      have := Rat.intCast_le_intCast.mpr k2
      rwa [Rat.intCast_zero] at this
    have a1 : (a : Rat) ≤ 1000 := Rat.intCast_le_intCast.mpr k3
    have m0 := hp _ (getD_memQ k1)
    refine ⟨1, by decide, by decide, ?_, ?_, ?_, by simp [stepW]⟩
    · rw [Nat.mul_one]
      exact set_all hd ((getD_dn hd k1).add (Dn.int _ _))
    · exact set_all hp (by grind)
    · have e : tot (stepW ws u (.pr k a)) = _ := tot_set _ k1
      rw [e]
      show _ ≤ tot u + (a : Rat)
      grind
  | sc k p =>
    obtain ⟨k1, k2⟩ := he
    obtain ⟨p0, p1, p2⟩ := k2
    have m0 := hp _ (getD_memQ k1)
    have z1 : 0 ≤ u.getD k 0 * p := Rat.mul_nonneg m0 p0
    have z2 : u.getD k 0 * p ≤ u.getD k 0 * 1 := Rat.mul_le_mul_of_nonneg_left p1 m0
    refine ⟨p.den, p.den_pos, by omega, ?_, ?_, ?_, by simp [stepW]⟩
    · exact set_all (fun q m => (hd q m).mono ⟨p.den, rfl⟩) (((getD_dn hd k1).mono ⟨p.den, rfl⟩).add (part_dn (getD_dn hd k1)).neg)
    · exact set_all hp (by grind)
    · have e : tot (stepW ws u (.sc k p)) = _ := tot_set _ k1
      rw [e]
      show _ ≤ tot u + ((0 : Int) : Rat)
      rw [Rat.intCast_zero]
      grind
  | mv i j p =>
    obtain ⟨k1, k2, k3, k4⟩ := he
    obtain ⟨p0, p1, p2⟩ := k4
    have m0 := hp _ (getD_memQ k1)
    have m1 := hp _ (getD_memQ k2)
    have z1 : 0 ≤ u.getD i 0 * p := Rat.mul_nonneg m0 p0
    have z2 : u.getD i 0 * p ≤ u.getD i 0 * 1 := Rat.mul_le_mul_of_nonneg_left p1 m0
    refine ⟨p.den, p.den_pos, by omega, ?_, ?_, ?_, by simp [stepW]⟩
    · exact set_all (set_all (fun q m => (hd q m).mono ⟨p.den, rfl⟩) (((getD_dn hd k1).mono ⟨p.den, rfl⟩).add (part_dn (getD_dn hd k1)).neg)) (((getD_dn hd k2).mono ⟨p.den, rfl⟩).add (part_dn (getD_dn hd k1)))
    · exact set_all (set_all hp (by grind)) (by grind)
    · have e : tot (stepW ws u (.mv i j p)) = _ := tot_set (u := u.set i (u.getD i 0 + -(u.getD i 0 * p))) _ (by simpa using k2)
      rw [e, tot_set _ k1, getD_setne k3]
      show _ ≤ tot u + ((0 : Int) : Rat)
      rw [Rat.intCast_zero]
      grind

/-! ### the waters behind each beginning -/
def amts (vs : List Vat) : List Rat := vs.map fun v => (v.a : Rat)
def putN (vs : List Vat) (ds : List Deed) : Int := (vs.map (·.a)).sum + (ds.map poured).sum
theorem tot_amts (vs : List Vat) : tot (amts vs) = (((vs.map (·.a)).sum : Int) : Rat) := by
  unfold amts
  induction vs with
  | nil => simp [tot]
  | cons v vs ih =>
    simp only [List.map_cons, tot, List.sum_cons, Rat.intCast_add]
    rw [ih]
theorem sum_le {l : List Int} {B : Int} (h : ∀ a ∈ l, 0 ≤ a ∧ a ≤ B) : 0 ≤ l.sum ∧ l.sum ≤ B * l.length := by
  induction l with
  | nil => simp
  | cons a l ih =>
    obtain ⟨h1, h2⟩ := ih fun b m => h b (List.mem_cons_of_mem _ m)
    obtain ⟨h3, h4⟩ := h a List.mem_cons_self
    rw [List.sum_cons, List.length_cons]
    have : B * ((l.length + 1 : Nat) : Int) = B * l.length + B := by rw [Int.natCast_add, Int.mul_add]; simp
    rw [this]
    omega
theorem poured_le {n : Nat} {e : Deed} (h : e.ok n) : 0 ≤ poured e ∧ poured e ≤ 1000 := by
  cases e <;> simp [poured]
  exact h.2
theorem putN_le {vs : List Vat} (h : VatsOk vs) {ds : List Deed} (hn : ds.length ≤ 60) (hd : ∀ e ∈ ds, e.ok vs.length) : 0 ≤ putN vs ds ∧ putN vs ds ≤ 80000 := by
  obtain ⟨a1, a2⟩ := sum_le (l := vs.map (·.a)) (B := 1000) fun a m => by
    obtain ⟨v, mv, rfl⟩ := List.mem_map.mp m
    exact ⟨(h.v v mv).1, (h.v v mv).2.1⟩
  obtain ⟨b1, b2⟩ := sum_le (l := ds.map poured) (B := 1000) fun a m => by
    obtain ⟨e, me, rfl⟩ := List.mem_map.mp m
    exact poured_le (hd e me)
  have := h.n
  rw [List.length_map] at a2 b2
  unfold putN
  omega
theorem runW_snoc (ws u : List Rat) (ds : List Deed) (e : Deed) : runW ws u (ds ++ [e]) = stepW ws (runW ws u ds) e := by simp [runW]
structure Ran (vs : List Vat) (x : Rat) (ds : List Deed) (D : Nat) : Prop where
  d0 : 0 < D
  sD : Sm (66 * ds.length + 1) (D : Int)
  d : ∀ q ∈ runW (vs.map (wid x)) (amts vs) ds, Dn D q
  p : ∀ q ∈ runW (vs.map (wid x)) (amts vs) ds, 0 ≤ q
  t : tot (runW (vs.map (wid x)) (amts vs) ds) ≤ (putN vs ds : Rat)
  l : (runW (vs.map (wid x)) (amts vs) ds).length = vs.length
theorem wd_of {vs : List Vat} (h : VatsOk vs) {x : Rat} (hx : 0 < x) : Wd x (vs.map (wid x)) := by
  have key : ∀ q ∈ vs.map (wid x), 0 < q ∧ (q = x ∨ ∃ i : Int, q = (i : Rat) ∧ 1 ≤ i ∧ i ≤ 1000) := fun q m => by
    obtain ⟨v, mv, rfl⟩ := List.mem_map.mp m
    have hv := (h.v v mv).2.2
    unfold wid
    split
    · exact ⟨hx, .inl rfl⟩
    · next i e =>
      obtain ⟨h1, h2⟩ := hv i e
      have : ((0 : Int) : Rat) < (i : Rat) := Rat.intCast_lt_intCast.mpr (by omega)
      rw [Rat.intCast_zero] at this
      exact ⟨this, .inr ⟨i, rfl, h1, h2⟩⟩
  exact ⟨fun q m => (key q m).1, fun q m => (key q m).2⟩
theorem ran_ok {vs : List Vat} (h : VatsOk vs) {x : Rat} (hx : 0 < x) (qx : Qb 51 x) : ∀ (n : Nat) (ds : List Deed), ds.length = n → (∀ e ∈ ds, e.ok vs.length) → ∃ D, Ran vs x ds D
  | 0, ds, hn, _ => by
    have : ds = [] := List.length_eq_zero_iff.mp hn
    subst this
    refine ⟨1, by decide, smc, ?_, ?_, ?_, ?_⟩
    · intro q m
      obtain ⟨v, mv, rfl⟩ := List.mem_map.mp m
      exact Dn.int _ _
    · intro q m
      obtain ⟨v, mv, rfl⟩ := List.mem_map.mp m
      have := Rat.intCast_le_intCast.mpr (h.v v mv).1
      rwa [Rat.intCast_zero] at this
    · show tot (amts vs) ≤ _
      rw [tot_amts]
      refine Rat.intCast_le_intCast.mpr ?_
      simp [putN]
    · simp [runW, amts]
  | n + 1, ds, hn, hd => by
    have ne : ds ≠ [] := fun e => by rw [e] at hn; simp at hn
    obtain ⟨es, e, rfl⟩ : ∃ es e, ds = es ++ [e] := ⟨ds.dropLast, ds.getLast ne, (List.dropLast_concat_getLast ne).symm⟩
    obtain ⟨D, r⟩ := ran_ok h hx qx n es (by simpa using hn) fun a m => hd a (List.mem_append_left _ m)
    have lw : (vs.map (wid x)).length = (runW (vs.map (wid x)) (amts vs) es).length := by rw [r.l]; simp
    obtain ⟨m, g⟩ := step_ok (e := e) (wd_of h hx) qx lw (by rw [r.l]; exact hd e (by simp)) r.d r.p
    refine ⟨D * m, Nat.mul_pos r.d0 g.m0, ?_, ?_, ?_, ?_, ?_⟩
    · have sm : Sm 66 (m : Int) := by unfold Sm; simpa using g.m1
      rw [Int.natCast_mul]
      exact (r.sD.mul sm).mono (by simp; omega)
    · rw [runW_snoc]; exact g.d
    · rw [runW_snoc]; exact g.p
    · rw [runW_snoc]
      refine Rat.le_trans g.t ?_
      have e2 : putN vs (es ++ [e]) = putN vs es + poured e := by
        simp only [putN, List.map_append, List.map_cons, List.map_nil, List.sum_append, List.sum_cons, List.sum_nil]
        omega
      rw [e2, Rat.intCast_add]
      have := r.t
      grind
    · rw [runW_snoc, g.l, r.l]
theorem Ran.wz {vs : List Vat} {x : Rat} {ds : List Deed} {D : Nat} (r : Ran vs x ds D) (h : VatsOk vs) (hn : ds.length ≤ 60) (hd : ∀ e ∈ ds, e.ok vs.length) : Wz D (runW (vs.map (wid x)) (amts vs) ds) ∧ Sm 4000 (D : Int) := by
  refine ⟨⟨r.d, r.p, fun q m => ?_⟩, r.sD.mono (by omega)⟩
  have h1 := tot_ge r.p q m
  have h2 := r.t
  have h3 : ((putN vs ds : Int) : Rat) ≤ ((80000 : Int) : Rat) := Rat.intCast_le_intCast.mpr (putN_le h hn hd).2
  have h4 : ((80000 : Int) : Rat) = (80000 : Rat) := rfl
  grind
/-! ### levels and waters -/
def levs (ws u : List Rat) : List Rat := List.zipWith (fun a b => a / b) u ws
theorem levs_len {ws u : List Rat} (h : ws.length = u.length) : (levs ws u).length = u.length := by simp [levs, h]
theorem levs_get {ws u : List Rat} (h : ws.length = u.length) {k : Nat} (hk : k < u.length) : (levs ws u).getD k 0 = u.getD k 0 / ws.getD k 0 := by
  simp only [levs, List.getD_eq_getElem?_getD, List.getElem?_zipWith]
  rw [List.getElem?_eq_getElem hk, List.getElem?_eq_getElem (show k < ws.length by omega)]
  rfl
theorem back_water {ws u : List Rat} (h : ws.length = u.length) (hp : ∀ q ∈ ws, 0 < q) {k : Nat} (hk : k < u.length) : (levs ws u).getD k 0 * ws.getD k 0 = u.getD k 0 := by
  rw [levs_get h hk]
  have := hp _ (getD_memQ (show k < ws.length by omega))
  have : ws.getD k 0 ≠ 0 := by grind
  grind
/-! ### an opened valve -/
theorem mean_lo {L : Rat} {ws u : List Rat} : ∀ {ks : List Nat}, (∀ k ∈ ks, L * ws.getD k 0 ≤ u.getD k 0) → L * sumK ws ks ≤ sumK u ks ∧ (sumK u ks ≤ L * sumK ws ks → ∀ k ∈ ks, u.getD k 0 = L * ws.getD k 0)
  | [], _ => ⟨by show L * 0 ≤ 0; grind, fun _ k m => by cases m⟩
  | k :: ks, h => by
    obtain ⟨h1, h2⟩ := mean_lo (ks := ks) fun j m => h j (List.mem_cons_of_mem _ m)
    have h3 := h k List.mem_cons_self
    simp only [sumK]
    refine ⟨by grind, fun z j m => ?_⟩
    rcases List.mem_cons.mp m with rfl | m
    · grind
    · exact h2 (by grind) j m
theorem mean_hi {L : Rat} {ws u : List Rat} : ∀ {ks : List Nat}, (∀ k ∈ ks, u.getD k 0 ≤ L * ws.getD k 0) → sumK u ks ≤ L * sumK ws ks ∧ (L * sumK ws ks ≤ sumK u ks → ∀ k ∈ ks, u.getD k 0 = L * ws.getD k 0)
  | [], _ => ⟨by show 0 ≤ L * 0; grind, fun _ k m => by cases m⟩
  | k :: ks, h => by
    obtain ⟨h1, h2⟩ := mean_hi (ks := ks) fun j m => h j (List.mem_cons_of_mem _ m)
    have h3 := h k List.mem_cons_self
    simp only [sumK]
    refine ⟨by grind, fun z j m => ?_⟩
    rcases List.mem_cons.mp m with rfl | m
    · grind
    · exact h2 (by grind) j m
theorem tot_take {u : List Rat} {i : Nat} (h : i < u.length) : tot (u.take (i + 1)) = tot (u.take i) + u.getD i 0 := by
  induction u generalizing i with
  | nil => simp at h
  | cons a u ih =>
    cases i with
    | zero => simp [tot, Rat.add_comm]
    | succ i =>
      simp only [List.take_succ_cons, tot, List.getD_cons_succ]
      rw [ih (by simpa using h), Rat.add_assoc]
/-! ### small laws for the walks -/
def amtD : DD → SV
  | .tup [_, .int a] => .dat (.tup [.int a, .int 1])
  | _ => .dat .non
theorem amtD_all (vs : List Vat) : (vs.map Vat.d).map amtD = (amts vs).map fun q => SV.dat (rT q) := by
  unfold amts
  rw [List.map_map, List.map_map]
  refine List.map_congr_left fun v _ => ?_
  obtain ⟨w, a⟩ := v
  show SV.dat (.tup [.int a, .int 1]) = SV.dat (rT (a : Rat))
  rw [rT_int]
theorem amts_get {vs : List Vat} : (amts vs).length = vs.length := by simp [amts]
theorem prt_of {a b : Int} (h0 : 0 ≤ a) (h1 : a ≤ b) (hb : 1 ≤ b) (h2 : b ≤ 1000) : Prt (Rat.divInt a b) := by
  have bp : (0 : Rat) < (b : Rat) := by
    have := Rat.intCast_lt_intCast.mpr (show (0 : Int) < b by omega)
    rwa [Rat.intCast_zero] at this
  have a0 : (0 : Rat) ≤ (a : Rat) := by
    have := Rat.intCast_le_intCast.mpr h0
    rwa [Rat.intCast_zero] at this
  have ab : (a : Rat) ≤ (b : Rat) := Rat.intCast_le_intCast.mpr h1
  have i0 := inv_nn bp
  have nz : (b : Rat) ≠ 0 := by grind
  rw [Rat.divInt_eq_div]
  refine ⟨?_, ?_, ?_⟩
  · rw [Rat.div_def]
    exact Rat.mul_nonneg a0 i0
  · rw [Rat.div_def]
    have := Rat.mul_le_mul_of_nonneg_right ab i0
    have e : (b : Rat) * (b : Rat)⁻¹ = 1 := by grind
    rw [e] at this
    exact this
  · rw [← Rat.divInt_eq_div, Rat.den_divInt, if_neg (by omega)]
    have := Nat.div_le_self b.natAbs (Int.gcd b a)
    omega
theorem wrapM {n t m : Nat} (h : n < m) (h2 : t + 1 < m) : (n + 1 + t) % m ≠ n := by
  by_cases z : n + 1 + t < m
  · rw [Nat.mod_eq_of_lt z]; omega
  · rw [Nat.mod_eq_sub_mod (by omega), Nat.mod_eq_of_lt (by omega)]; omega
theorem at4i (a b c d : Int) {n : Int} (h0 : 0 ≤ n) (h1 : n < 4) : ∃ v, atI [DD.int a, .int b, .int c, .int d] n = some (.int v) ∧ v ∈ [a, b, c, d] := by
  have : n = 0 ∨ n = 1 ∨ n = 2 ∨ n = 3 := by omega
  rcases this with rfl | rfl | rfl | rfl
  · exact ⟨a, rfl, by simp⟩
  · exact ⟨b, rfl, by simp⟩
  · exact ⟨c, rfl, by simp⟩
  · exact ⟨d, rfl, by simp⟩
theorem divI_pos {a b : Int} (h0 : 0 < a) (hb : 0 < b) : 0 < Rat.divInt a b := by
  have bp : (0 : Rat) < (b : Rat) := by
    have := Rat.intCast_lt_intCast.mpr hb
    rwa [Rat.intCast_zero] at this
  have a0 : (0 : Rat) < (a : Rat) := by
    have := Rat.intCast_lt_intCast.mpr h0
    rwa [Rat.intCast_zero] at this
  rw [Rat.divInt_eq_div, Rat.div_def]
  have i0 := inv_nn bp
  have nz : (b : Rat) ≠ 0 := by grind
  refine Rat.mul_pos a0 ?_
  rcases Rat.le_iff_lt_or_eq.mp i0 with h | h
  · exact h
  · have e : (b : Rat) * (b : Rat)⁻¹ = 1 := by grind
    rw [← h] at e
    rw [Rat.mul_zero] at e
    exact absurd e (by decide +kernel)
def atQ (u : List Rat) : DD → SV
  | .int k => .dat (rT (u.getD k.toNat 0))
  | _ => .dat .non
theorem atQ_all (u : List Rat) {n : Nat} (h : n = u.length) : (rgD 0 1 n).map (atQ u) = u.map fun q => SV.dat (rT q) := by
  subst h
  unfold rgD
  rw [List.map_map]
  refine List.ext_getElem (by simp) fun i h1 h2 => ?_
  have hi : i < u.length := by simpa using h2
  simp [atQ, List.getD_eq_getElem?_getD, hi]
theorem pick3 {n : Int} (h0 : 0 ≤ n) (h1 : n < 3) : n = 0 ∨ n = 1 ∨ n = 2 := by omega
theorem Deed.word {e : Deed} (h : ∀ i j, e ≠ .un i j) : ∃ z r, e.d = .tup (.str z :: r) ∧ ¬ z = Str.ofString "unless" := by
  cases e with
  | op ks => exact ⟨_, _, rfl, by simp⟩
  | pr k a => exact ⟨_, _, rfl, by simp⟩
  | sc k p => exact ⟨_, _, rfl, by simp⟩
  | mv i j p => exact ⟨_, _, rfl, by simp⟩
  | un i j => exact absurd rfl (h i j)
theorem two_le {ks : List Nat} {i j : Nat} (hi : i ∈ ks) (hj : j ∈ ks) (h : i ≠ j) : 2 ≤ ks.length := by
  match ks with
  | [] => cases hi
  | [a] =>
    rw [List.mem_singleton] at hi hj
    exact absurd (hi.trans hj.symm) h
  | a :: b :: r => simp
theorem rise_snoc {ks : List Nat} {t : Nat} (h : ks.Pairwise (· < ·)) (l : ∀ k ∈ ks, k < t) : (ks ++ [t]).Pairwise (· < ·) :=
  List.pairwise_append.mpr ⟨h, List.pairwise_singleton _ _, fun a ha b hb => by rw [List.mem_singleton] at hb; subst hb; exact l a ha⟩
/-! ### what a step owes -/
theorem rats_ok (l : List Rat) : DD.pures (l.map rT) = true ∧ PyData.canLayAll0 (DD.pys (l.map rT)) = true ∧ PyData.depthAll (DD.pys (l.map rT)) ≤ 1 := by
  induction l with
  | nil => simp [DD.pures, DD.pys, PyData.canLayAll0, PyData.depthAll]
  | cons x l ih =>
    obtain ⟨h1, h2, h3⟩ := ih
    simp [rT, DD.pures, DD.pys, PyData.canLayAll0, PyData.depthAll, DD.pure, DD.py, PyData.canLay0, PyData.depth, h1, h2]
    omega
theorem okD_rats (l : List Rat) : okD (.lst (l.map rT)) = true := by
  obtain ⟨h1, h2, h3⟩ := rats_ok l
  simp [okD, DD.pure, DD.py, SeqAt.shaped, PyData.canLay0, PyData.depth, h1, h2]
  omega
theorem eqD_ratT (q : Rat) : eqD (rT q) (rT q) = true := (eqD_tint (l := [q.num, (q.den : Int)]) (m := [q.num, (q.den : Int)])).trans (by simp)
theorem okD_ratT (q : Rat) : okD (rT q) = true := okD_tint (l := [q.num, (q.den : Int)])
theorem eqD_rats (l : List Rat) : eqD (.lst (l.map rT)) (.lst (l.map rT)) = true := by
  induction l with
  | nil => exact (eqD_lint (l := []) (m := [])).trans (by simp)
  | cons x l ih =>
    have h1 := eqD_ratT x
    simp only [eqD, DD.py, PyData.eqv] at ih h1 ⊢
    simp only [List.map_cons, DD.pys, PyData.eqvAll, ih, h1, Bool.and_true]
theorem eqD_niL (ds : List DD) : eqD (.lst ds) (.lst []) = decide (ds = []) := by
  cases ds <;> simp [eqD, DD.py, DD.pys, PyData.eqv, PyData.eqvAll]
theorem qb_sg {D k m : Nat} {y : Rat} (hd : Dn D y) (d0 : 0 < D) (sD : Sm k (D : Int)) (y0 : -((2 ^ m : Nat) : Rat) ≤ y) (hy : y ≤ ((2 ^ m : Nat) : Rat)) : Qb (k + m + 1) y ∧ Sm k (y.den : Int) := by
  by_cases z : 0 ≤ y
  · exact qb_of hd d0 sD z hy
  · obtain ⟨h1, h2⟩ := qb_of (m := m) hd.neg d0 sD (by grind) (by grind)
    have e : - -y = y := by grind
    exact ⟨by rw [← e]; exact h1.neg, by rw [← e]; exact h2⟩
theorem rT_inv {w : Rat} (h : 0 < w) : DD.tup [.int (w.den : Int), .int w.num] = rT w⁻¹ := by
  have n0 := num_pos h
  have e : w⁻¹ = Rat.divInt (w.den : Int) w.num := by
    have h1 := rat_dn w
    have d0 : (w.den : Rat) ≠ 0 := by
      have := rden w
      have h2 : (((w.den : Int)) : Rat) ≠ 0 := by exact_mod_cast this
      exact h2
    rw [Rat.divInt_eq_div, ncast, ← h1]
    have : w ≠ 0 := by grind
    grind
  have g : Int.gcd (w.den : Int) w.num = 1 := by
    have := rat_cop w
    rw [Int.gcd_comm]; exact this
  have g2 : Int.gcd w.num (w.den : Int) = 1 := by rw [Int.gcd_comm]; exact g
  unfold rT
  rw [e, Rat.num_divInt, Rat.den_divInt, if_neg (by omega)]
  have sg : w.num.sign = 1 := Int.sign_eq_one_of_pos n0
  rw [sg, g2]
  simp
  omega
theorem inv_sz {w : Rat} {k : Nat} (h : Qb k w) (h0 : 0 < w) : Qb k w⁻¹ := by
  have e := rT_inv h0
  unfold rT at e
  simp only [DD.tup.injEq, List.cons.injEq, DD.int.injEq, and_true] at e
  exact ⟨by rw [← e.1]; exact h.d, by rw [← e.2]; exact h.n⟩
def inK (ks : List Nat) (i : Nat) : List Nat := (List.range i).filter fun k => decide (k ∈ ks)
theorem inK_yes {ks : List Nat} {i : Nat} (h : i ∈ ks) : inK ks (i + 1) = inK ks i ++ [i] := by simp [inK, List.range_succ, h]
theorem inK_no {ks : List Nat} {i : Nat} (h : i ∉ ks) : inK ks (i + 1) = inK ks i := by simp [inK, List.range_succ, h]
theorem inK_mem {ks : List Nat} {i k : Nat} : k ∈ inK ks i ↔ k < i ∧ k ∈ ks := by simp [inK]
def qOf : DD → Rat
  | .tup [.int a, .int b] => Rat.divInt a b
  | _ => 0
theorem qOf_rT (q : Rat) : qOf (rT q) = q := by
  show Rat.divInt q.num (q.den : Int) = q
  exact Rat.num_divInt_den q
theorem lev_ge {L a w : Rat} (h : 0 < w) : ¬ a * w⁻¹ < L ↔ L * w ≤ a := by
  have i0 := inv_nn h
  have e : w * w⁻¹ = 1 := by grind
  constructor
  · intro z
    have h1 := Rat.mul_le_mul_of_nonneg_right (show L ≤ a * w⁻¹ by grind) (show 0 ≤ w by grind)
    have : a * w⁻¹ * w = a := by grind
    rw [this] at h1
    exact h1
  · intro z
    have h1 := Rat.mul_le_mul_of_nonneg_right z i0
    have : L * w * w⁻¹ = L := by grind
    rw [this] at h1
    grind
theorem lev_le {L a w : Rat} (h : 0 < w) : ¬ L < a * w⁻¹ ↔ a ≤ L * w := by
  have i0 := inv_nn h
  have e : w * w⁻¹ = 1 := by grind
  constructor
  · intro z
    have h1 := Rat.mul_le_mul_of_nonneg_right (show a * w⁻¹ ≤ L by grind) (show 0 ≤ w by grind)
    have : a * w⁻¹ * w = a := by grind
    rw [this] at h1
    exact h1
  · intro z
    have h1 := Rat.mul_le_mul_of_nonneg_right z i0
    have : L * w * w⁻¹ = L := by grind
    rw [this] at h1
    grind
def befs (ws u : List Rat) (ks : List Nat) (i : Nat) : List Rat := (inK ks i).map fun k => u.getD k 0 * (ws.getD k 0)⁻¹
theorem ends_even {L : Rat} {ws u : List Rat} {ks : List Nat} (hl : ws.length = u.length) (hp : ∀ q ∈ ws, 0 < q) (hk : ∀ k ∈ ks, k < u.length) (hL : L * sumK ws ks = sumK u ks) :
    (befs ws u ks u.length).filter (fun q => decide (q < L)) = [] ↔ (befs ws u ks u.length).filter (fun q => decide (L < q)) = [] := by
  have wp : ∀ k ∈ ks, 0 < ws.getD k 0 := fun k m => hp _ (getD_memQ (by rw [hl]; exact hk k m))
  have a1 : (befs ws u ks u.length).filter (fun q => decide (q < L)) = [] ↔ ∀ k ∈ ks, L * ws.getD k 0 ≤ u.getD k 0 := by
    rw [List.filter_eq_nil_iff]
    constructor
    · intro h k m
      have := h (u.getD k 0 * (ws.getD k 0)⁻¹) (List.mem_map.mpr ⟨k, inK_mem.mpr ⟨hk k m, m⟩, rfl⟩)
      exact (lev_ge (wp k m)).mp (by simpa using this)
    · intro h q m
      obtain ⟨k, mk, rfl⟩ := List.mem_map.mp m
      have := inK_mem.mp mk
      have := (lev_ge (wp k this.2)).mpr (h k this.2)
      simpa using this
  have a2 : (befs ws u ks u.length).filter (fun q => decide (L < q)) = [] ↔ ∀ k ∈ ks, u.getD k 0 ≤ L * ws.getD k 0 := by
    rw [List.filter_eq_nil_iff]
    constructor
    · intro h k m
      have := h (u.getD k 0 * (ws.getD k 0)⁻¹) (List.mem_map.mpr ⟨k, inK_mem.mpr ⟨hk k m, m⟩, rfl⟩)
      exact (lev_le (wp k m)).mp (by simpa using this)
    · intro h q m
      obtain ⟨k, mk, rfl⟩ := List.mem_map.mp m
      have := inK_mem.mp mk
      have := (lev_le (wp k this.2)).mpr (h k this.2)
      simpa using this
  rw [a1, a2]
  constructor
  · intro h k m
    rw [(mean_lo h).2 (by rw [hL]; exact Rat.le_refl) k m]
    exact Rat.le_refl
  · intro h k m
    rw [(mean_hi h).2 (by rw [hL]; exact Rat.le_refl) k m]
    exact Rat.le_refl
theorem tot_bd {u : List Rat} {B : Rat} (h0 : ∀ q ∈ u, 0 ≤ q) (hB : ∀ q ∈ u, q ≤ B) : 0 ≤ tot u ∧ tot u ≤ (u.length : Rat) * B := by
  refine ⟨tot_nn h0, ?_⟩
  induction u with
  | nil => simp [tot]
  | cons a u ih =>
    have h1 := ih (fun q m => h0 q (List.mem_cons_of_mem _ m)) fun q m => hB q (List.mem_cons_of_mem _ m)
    have h2 := hB a List.mem_cons_self
    have e : (((a :: u).length : Nat) : Rat) = (u.length : Rat) + 1 := by
      rw [List.length_cons]; exact_mod_cast rfl
    rw [e, Rat.add_mul, Rat.one_mul]
    simp only [tot]
    grind
theorem tot_dn {D : Nat} {u : List Rat} (h : ∀ q ∈ u, Dn D q) : Dn D (tot u) := by
  induction u with
  | nil => simpa [tot] using Dn.int D 0
  | cons a u ih => exact (h a List.mem_cons_self).add (ih fun q m => h q (List.mem_cons_of_mem _ m))
theorem take_sz {E : Nat} {u : List Rat} (hu : Wz E u) (e0 : 0 < E) (sE : Sm 4000 (E : Int)) (lu : u.length ≤ 20) (i : Nat) : Qb 4030 (tot (u.take i)) ∧ Sm 4000 ((tot (u.take i)).den : Int) := by
  obtain ⟨h1, h2⟩ := tot_bd (u := u.take i) (B := 100000) (fun q m => hu.p q (List.mem_of_mem_take m)) fun q m => hu.b q (List.mem_of_mem_take m)
  obtain ⟨c1, c2⟩ := qb_of (m := 22) (tot_dn fun q m => hu.d q (List.mem_of_mem_take m)) e0 sE h1 (Rat.le_trans h2 (b20 (m := 17) (by simp; omega) (by decide +kernel) b17))
  exact ⟨c1.mono (by decide), c2⟩
/-- the sum of what went so far -/
theorem went_sz {E : Nat} {u v : List Rat} (hu : Wz E u) (hv : Wz E v) (e0 : 0 < E) (sE : Sm 4000 (E : Int)) (lu : u.length ≤ 20) (lv : v.length ≤ 20) (i : Nat) : Qb 4030 (tot (u.take i) + -tot (v.take i)) ∧ Sm 4000 ((tot (u.take i) + -tot (v.take i)).den : Int) := by
  have key : ∀ {u : List Rat}, Wz E u → u.length ≤ 20 → 0 ≤ tot (u.take i) ∧ tot (u.take i) ≤ ((2 ^ 22 : Nat) : Rat) ∧ Dn E (tot (u.take i)) := fun {u} hu lu => by
    obtain ⟨h1, h2⟩ := tot_bd (u := u.take i) (B := 100000) (fun q m => hu.p q (List.mem_of_mem_take m)) fun q m => hu.b q (List.mem_of_mem_take m)
    exact ⟨h1, Rat.le_trans h2 (b20 (m := 17) (by simp; omega) (by decide +kernel) b17), tot_dn fun q m => hu.d q (List.mem_of_mem_take m)⟩
  obtain ⟨a1, a2, a3⟩ := key hu lu
  obtain ⟨b1, b2, b3⟩ := key hv lv
  obtain ⟨c1, c2⟩ := qb_sg (m := 22) (a3.add b3.neg) e0 sE (by grind) (by grind)
  exact ⟨c1.mono (by decide), c2⟩
theorem sub_sz {E : Nat} {a b : Rat} (ha : Dn E a ∧ 0 ≤ a ∧ a ≤ 100000) (hb : Dn E b ∧ 0 ≤ b ∧ b ≤ 100000) (e0 : 0 < E) (sE : Sm 4000 (E : Int)) : Qb 4030 (a + -b) ∧ Sm 4000 ((a + -b).den : Int) := by
  obtain ⟨c1, c2⟩ := qb_sg (m := 17) (ha.1.add hb.1.neg) e0 sE (by have := b17; grind) (by have := b17; grind)
  exact ⟨c1.mono (by decide), c2⟩
theorem nI_mem {ks : List Nat} {i : Nat} : (i : Int) ∈ nI ks ↔ i ∈ ks := by
  unfold nI
  rw [List.mem_map]
  constructor
  · rintro ⟨a, m, e⟩
    have : a = i := by omega
    rw [← this]; exact m
  · intro m
    exact ⟨i, m, rfl⟩
theorem filt_q (bs : List Rat) (L : Rat) : ((bs.map rT).filter fun d => decide (qOf d < L)).map SV.dat = (bs.filter fun q => decide (q < L)).map fun q => SV.dat (rT q) := by
  rw [List.filter_map, List.map_map]
  simp only [Function.comp_def, qOf_rT]
theorem filt_q2 (bs : List Rat) (L : Rat) : ((bs.map rT).filter fun d => decide (L < qOf d)).map SV.dat = (bs.filter fun q => decide (L < q)).map fun q => SV.dat (rT q) := by
  rw [List.filter_map, List.map_map]
  simp only [Function.comp_def, qOf_rT]
theorem eqD_bls (a b : Bool) : eqD (.bl a) (.bl b) = decide (a = b) := by
  cases a <;> cases b <;> decide +kernel
theorem if_to {c : FT} {f g : FS} {D : DEnds} {ρ : Rho} (ρ1 : Rho) (b : Bool) (hc : ∀ Q : Bool → Rho → Prop, Q b ρ1 → c ρ Q) (h : if b = true then f D ρ1 else g D ρ1) : fIf c f g D ρ := by
  unfold fIf
  exact hc _ h
theorem inK_ne {ks : List Nat} {n : Nat} (h : ks ≠ []) (hk : ∀ k ∈ ks, k < n) : inK ks n ≠ [] := by
  cases ks with
  | nil => exact absurd rfl h
  | cons a r =>
    intro z
    have : a ∈ inK (a :: r) n := inK_mem.mpr ⟨hk a List.mem_cons_self, List.mem_cons_self⟩
    rw [z] at this
    cases this
theorem at_first {js : List Nat} (h : js ≠ []) (L : Rat) : atI (List.map (rT ∘ fun _ => L) js) 0 = some (rT L) := by
  cases js with
  | nil => exact absurd rfl h
  | cons a r =>
    show atI _ ((0 : Nat) : Int) = _
    rw [atI_nat (by simp)]
    rfl
def keepU : DD → Bool
  | .tup (.str z :: _) => !decide (z = Str.ofString "unless")
  | _ => false
def Deed.keep (e : Deed) : Bool := keepU e.d
theorem keepU_all (fs : List Deed) : (List.filter keepU (fs.map Deed.d)).map SV.dat = ((fs.filter Deed.keep).map Deed.d).map SV.dat := by
  rw [List.filter_map]
  rfl
theorem keep_ne {e : Deed} (h : e.keep = true) (i j : Nat) : e ≠ .un i j := by
  intro z
  subst z
  simp [Deed.keep, keepU, Deed.d] at h
theorem cut30 {α : Type} {l : List α} : DL.cutD l none (some 30) = l.take 30 := cut_take (n := 30)
theorem ob_data (C : Addr) (vs : List Vat) (ds : List Deed) : (SV.ob C (datF [("kept_tanks", .tup (vs.map Vat.d)), ("kept_steps", .tup (ds.map Deed.d))])).data = sObj C vs ds := by
  simp [sObj, datF, SV.data, SV.dataF]
theorem deed_at {ds : List Deed} {j : Nat} {e : Deed} (h : ds[j]? = some e) : atI (ds.map Deed.d) (j : Int) = some e.d := by
  have hl := (List.getElem?_eq_some_iff.mp h).1
  rw [atI_map, DL.atI_nat hl]
  have := (List.getElem?_eq_some_iff.mp h).2
  rw [this]
  rfl
end DL

namespace My
open PySem PySem.Spec PyProof.Rows L2 DL
theorem gcd_abs (a b : Int) : Int.gcd (if a < 0 then -a else a) (if b < 0 then -b else b) = Int.gcd a b := by split <;> split <;> simp
theorem fmod_lt (x : Int) {y : Int} (h : 0 ≤ y) (z : y ≠ 0) : 0 ≤ x.fmod y ∧ (x.fmod y).toNat < y.toNat := by
  rw [Int.fmod_eq_emod_of_nonneg _ h]
  have := Int.emod_nonneg x z
  have := Int.emod_lt_of_pos x (show 0 < y by omega)
  omega
theorem gcd_fmod {x y : Int} (h0 : 0 ≤ x) (h : 0 ≤ y) : Int.gcd y (x.fmod y) = Int.gcd x y := by
  rw [Int.fmod_eq_emod_of_nonneg _ h]
  obtain ⟨m, rfl⟩ := Int.eq_ofNat_of_zero_le h0
  obtain ⟨n, rfl⟩ := Int.eq_ofNat_of_zero_le h
  rw [← Int.natCast_emod]
  show Nat.gcd n (m % n) = Nat.gcd m n
  rw [Nat.gcd_comm n, ← Nat.gcd_rec, Nat.gcd_comm]
theorem ret_go {fe : FE} {D : DEnds} {ρ : Rho} (R : SV → Rho → Prop) (hR : ∀ r ρ', R r ρ' → D.rt r ρ') (h : ∀ S : SV → Rho → Prop, (∀ r ρ', R r ρ' → S r ρ') → fe ρ S) : fRet fe D ρ := h _ hR
theorem for_go {fi : FI} {fg : FG} {f : FS} {D : DEnds} {ρ : Rho} (ds : List DD) (h : ∀ Q : List DD → Rho → Prop, Q ds ρ → fi ρ Q) (h2 : forB fg f ds D ρ) : fFor fi fg f D ρ := h _ h2
/-! the program's own -/
def cDiv : Ctr := fun as Q => ∃ a b : Int, as = [.dat (.int a), .dat (.int b)] ∧ Q (.dat (.int (Int.gcd a b))) as
def cShared : Ctr := fun as Q => ∃ a b : Int, as = [.dat (.int a), .dat (.int b)] ∧ Sm 9000 b ∧ Q (.dat (.int (Int.gcd a b))) as
def cRed : Ctr := fun as Q => ∃ a b : Int, as = [.dat (.int a), .dat (.int b)] ∧ b ≠ 0 ∧ Sm 8900 b ∧ Q (.dat (rT (Rat.divInt a b))) as
def cIsF : Ctr := fun as Q => ∃ q : Rat, as = [.dat (rT q)] ∧ Q (.dat (.bl true)) as
def cIsW : Ctr := fun as Q => ∃ q : Rat, as = [.dat (rT q)] ∧ 0 < q ∧ Q (.dat (.bl true)) as
def cChkW : Ctr := fun as Q => ∃ q : Rat, as = [.dat (rT q)] ∧ 0 < q ∧ Q (.dat .non) as
def cAddR : Ctr := fun as Q => ∃ x y : Rat, as = [.dat (rT x), .dat (rT y)] ∧ Qb 30000 x ∧ Qb 30000 y ∧ Sm 8900 ((x.den : Int) * (y.den : Int)) ∧ Q (.dat (rT (x + y))) as
def cMulR : Ctr := fun as Q => ∃ x y : Rat, as = [.dat (rT x), .dat (rT y)] ∧ Qb 30000 x ∧ Qb 30000 y ∧ Sm 8900 ((x.den : Int) * (y.den : Int)) ∧ Q (.dat (rT (x * y))) as
def cLess : Ctr := fun as Q => ∃ x y : Rat, as = [.dat (rT x), .dat (rT y)] ∧ Qb 30000 x ∧ Qb 30000 y ∧ Q (.dat (.bl (decide (x < y)))) as
def cmpQ (x y : Rat) : Int := if x < y then -1 else if y < x then 1 else 0
def cCmp : Ctr := fun as Q => ∃ x y : Rat, as = [.dat (rT x), .dat (rT y)] ∧ Qb 30000 x ∧ Qb 30000 y ∧ Q (.dat (.int (cmpQ x y))) as
theorem cmpQ_gt (x y : Rat) : (0 < cmpQ x y) = (y < x) := by
  unfold cmpQ
  by_cases h : x < y
  · rw [if_pos h]
    have : ¬ y < x := by grind
    simp [this]
  · rw [if_neg h]
    by_cases h2 : y < x
    · rw [if_pos h2]; simp [h2]
    · rw [if_neg h2]; simp [h2]
/-- purse, coin -/
def Sk (c : Nat) (t : SV) : Prop := ∃ a b : Int, t = .own [.dat (.int a), .dat (.int b), .dat (.int c)] ∧ Sm 1100000 a ∧ Sm 90 b
def cCoin : Ctr := fun as Q => ∃ (s : SV) (c : Nat) (m : Int), as = [s, .dat (.int m)] ∧ Sk c s ∧ c < 2 ^ 60 ∧ 0 < m ∧ Sm 8000 m ∧ ∀ n s' c', 0 ≤ n → n < m → Sk c' s' → c' ≤ c + 1 → Q (.dat (.int n)) [s', .dat (.int m)]
def cSack : Ctr := fun as Q => ∃ (ns : List Int) (r : Nat) (b : Bool), as = [.dat (scr b ns), .dat (.int r)] ∧ (∀ z ∈ ns, Sm 1048576 z) ∧ r < 2 ^ 40 ∧ ∀ s, Sk 0 s → Q s as
/-- widths, a list or a tuple -/
inductive Wk where
  | l
  | t
def dW (b : Wk) (ws : List Rat) : DD := match b with
  | .t => .tup (ws.map rT)
  | .l => dQ ws
@[simp] theorem dW_t (ws : List Rat) : dW .t ws = .tup (ws.map rT) := rfl
@[simp] theorem dW_f (ws : List Rat) : dW .l ws = .lst (ws.map rT) := rfl
def endW (ws u : List Rat) : Deed → Bool
  | .un i j => decide ((levs ws u).getD j 0 < (levs ws u).getD i 0)
  | _ => false
def cWidths : Ctr := fun as Q => ∃ (vs : List Vat) (x : Rat), as = [.dat (.lst (vs.map Vat.d)), .dat (rT x)] ∧ vs.length ≤ 1000 ∧ Q (oQ (vs.map (wid x))) as
def cLevels : Ctr := fun as Q => ∃ (b : Wk) (x : Rat) (D : Nat) (ws u : List Rat), as = [.dat (dW b ws), .dat (dQ u)] ∧ ws.length = u.length ∧ u.length ≤ 1000 ∧ 0 < D ∧ Sm 4000 D ∧ Wz D u ∧ Wd x ws ∧ Qb 51 x ∧ Q (oQ (levs ws u)) as
def cValve : Ctr := fun as Q => ∃ (b : Wk) (x : Rat) (D : Nat) (ws u : List Rat) (ks : List Nat), as = [.dat (dW b ws), .dat (dQ u), .dat (dI (nI ks))] ∧ ws.length = u.length ∧ u.length ≤ 20 ∧ 0 < D ∧ Sm 4000 D ∧ Wz D u ∧ Wd x ws ∧ Qb 51 x ∧ (Deed.op ks).ok u.length ∧ Q (oQ (stepW ws u (.op ks))) as
def cStep : Ctr := fun as Q => ∃ (b : Wk) (x : Rat) (D : Nat) (ws u : List Rat) (e : Deed), as = [.dat (dW b ws), .dat (dQ u), .dat e.d] ∧ ws.length = u.length ∧ u.length ≤ 20 ∧ 0 < D ∧ Sm 4000 D ∧ Wz D u ∧ Wd x ws ∧ Qb 51 x ∧ e.ok u.length ∧ (∀ i j, e ≠ .un i j) ∧ Q (oQ (stepW ws u e)) as
def cEnds : Ctr := fun as Q => ∃ (b : Wk) (x : Rat) (D : Nat) (ws u : List Rat) (e : Deed), as = [.dat (dW b ws), .dat (dQ u), .dat e.d] ∧ ws.length = u.length ∧ u.length ≤ 20 ∧ 0 < D ∧ Sm 4000 D ∧ Wz D u ∧ Wd x ws ∧ Qb 51 x ∧ e.ok u.length ∧ Q (.dat (.bl (endW ws u e))) as
def cChkT : Ctr := fun as Q => ∃ vs : List Vat, as = [.dat (.lst (vs.map Vat.d))] ∧ VatsOk vs ∧ Q (.dat .non) as
def cIsS : Ctr := fun as Q => ∃ (e : Deed) (n : Nat), as = [.dat e.d] ∧ e.ok n ∧ n ≤ 20 ∧ Q (.dat (.bl true)) as
def cTof : Ctr := fun as Q => ∃ (e : Deed) (n : Nat), as = [.dat e.d] ∧ e.ok n ∧ n ≤ 20 ∧ ∀ ks : List Nat, ks.length ≤ 20 → (∀ k ∈ ks, k < n) → Q (oI (nI ks)) as
def cChkS : Ctr := fun as Q => ∃ (e : Deed) (n : Nat), as = [.dat e.d, .dat (.int n)] ∧ e.ok n ∧ n ≤ 20 ∧ Q (.dat .non) as
theorem noLs_vats : ∀ vs : List Vat, noLs (vs.map Vat.d) = true
  | [] => rfl
  | v :: vs => by
    rw [List.map_cons, noLs, noLs_vats vs]
    obtain ⟨w, a⟩ := v
    cases w <;> rfl
theorem noLs_rats : ∀ l : List Rat, noLs (l.map rT) = true
  | [] => rfl
  | q :: l => by
    rw [List.map_cons, noLs, noLs_rats l]
    rfl
theorem flat_oQ (l : List Rat) : flatT (oQ l) = true := flatTs_all fun t m => by
  obtain ⟨q, _, rfl⟩ := List.mem_map.mp m
  rfl
/-! benches -/
/-- the waters ahead of all steps and behind each one -/
def scanW (ws u : List Rat) : List Deed → List (List Rat)
  | [] => [u]
  | e :: E => u :: scanW ws (stepW ws u e) E
theorem scanW_ne (ws u : List Rat) (E : List Deed) : scanW ws u E ≠ [] := by cases E <;> simp [scanW]
theorem scanW_snoc (ws : List Rat) (e : Deed) : ∀ (E : List Deed) (u : List Rat), scanW ws u (E ++ [e]) = scanW ws u E ++ [stepW ws (runW ws u E) e]
  | [], u => rfl
  | a :: E, u => by
    rw [List.cons_append, scanW, scanW_snoc ws e E, scanW]
    rfl
theorem scanW_last (ws : List Rat) : ∀ (E : List Deed) (u : List Rat), (scanW ws u E).getLast? = some (runW ws u E)
  | [], u => rfl
  | a :: E, u => by
    have ih := scanW_last ws E (stepW ws u a)
    rw [scanW, List.getLast?_cons, ih]
    rfl
theorem scanW_len (ws : List Rat) : ∀ (E : List Deed) (u : List Rat), (scanW ws u E).length = E.length + 1
  | [], u => rfl
  | a :: E, u => by rw [scanW, List.length_cons, scanW_len ws E, List.length_cons]
/-- what a bench has come to: steps done, whether over -/
structure Bn where
  vs : List Vat
  x : Rat
  E : List Deed
  o : Bool
def Bn.ws (b : Bn) : List Rat := b.vs.map (wid b.x)
def Bn.u (b : Bn) : List Rat := runW b.ws (amts b.vs) b.E
def Bn.od (b : Bn) : DD := if b.o = true then .int ((b.E.length : Int) - 1) else .non
structure Bn.ok (b : Bn) : Prop where
  v : VatsOk b.vs
  x : 0 < b.x
  q : Qb 51 b.x
  n : b.E.length ≤ 60
  e : ∀ e ∈ b.E, e.ok b.vs.length
theorem putT_le (x : Str) (t : SV) : ∀ fs : List (Str × SV), (putT x t fs).length ≤ fs.length + 1
  | [] => by simp [putT]
  | (g, y) :: r => by
    have := putT_le x t r
    rw [putT]
    split <;> simp only [List.length_cons] <;> omega
theorem putT_lt {x : Str} {t : SV} {fs : List (Str × SV)} {n : Nat} : fs.length < n → (putT x t fs).length < n + 1 := fun h => by
  have := putT_le x t fs
  omega
theorem pu1 {x1 : Str} {t1 : SV} : (putT x1 t1 []).length < 1000 := by
  have a1 := putT_le x1 t1 []
  simp only [List.length_nil] at a1
  omega
theorem pu2 {x1 x2 : Str} {t1 t2 : SV} : (putT x2 t2 (putT x1 t1 [])).length < 1000 := by
  have a1 := putT_le x1 t1 []
  have a2 := putT_le x2 t2 (putT x1 t1 [])
  simp only [List.length_nil] at a1
  omega
theorem pu3 {x1 x2 x3 : Str} {t1 t2 t3 : SV} : (putT x3 t3 (putT x2 t2 (putT x1 t1 []))).length < 1000 := by
  have a1 := putT_le x1 t1 []
  have a2 := putT_le x2 t2 (putT x1 t1 [])
  have a3 := putT_le x3 t3 (putT x2 t2 (putT x1 t1 []))
  simp only [List.length_nil] at a1
  omega
theorem pu4 {x1 x2 x3 x4 : Str} {t1 t2 t3 t4 : SV} : (putT x4 t4 (putT x3 t3 (putT x2 t2 (putT x1 t1 [])))).length < 1000 := by
  have a1 := putT_le x1 t1 []
  have a2 := putT_le x2 t2 (putT x1 t1 [])
  have a3 := putT_le x3 t3 (putT x2 t2 (putT x1 t1 []))
  have a4 := putT_le x4 t4 (putT x3 t3 (putT x2 t2 (putT x1 t1 [])))
  simp only [List.length_nil] at a1
  omega
theorem pu5 {x1 x2 x3 x4 x5 : Str} {t1 t2 t3 t4 t5 : SV} : (putT x5 t5 (putT x4 t4 (putT x3 t3 (putT x2 t2 (putT x1 t1 []))))).length < 1000 := by
  have a4 : (putT x4 t4 (putT x3 t3 (putT x2 t2 (putT x1 t1 [])))).length ≤ 4 := by
    have a1 := putT_le x1 t1 []
    have a2 := putT_le x2 t2 (putT x1 t1 [])
    have a3 := putT_le x3 t3 (putT x2 t2 (putT x1 t1 []))
    have a4 := putT_le x4 t4 (putT x3 t3 (putT x2 t2 (putT x1 t1 [])))
    simp only [List.length_nil] at a1
    omega
  have a5 := putT_le x5 t5 (putT x4 t4 (putT x3 t3 (putT x2 t2 (putT x1 t1 []))))
  omega
/-- its fields as a tree -/
def bF (b : Bn) (o : DD) (W T : List SV) : List (Str × SV) := [("first_tanks", .dat (.tup (b.vs.map Vat.d))), ("told_width", .dat (rT b.x)), ("all_widths", .dat (dW .t b.ws)), ("waters", .own W), ("done", .own T), ("over_at", .dat o)]
section
variable {b : Bn} {o o' : DD} {W W' T T' : List SV}
@[simp] theorem bF_len : (bF b o W T).length = 6 := rfl
@[simp] theorem bF_w : (bF b o W T).lookup ("waters" : Str) = some (.own W) := rfl
@[simp] theorem bF_d : (bF b o W T).lookup ("done" : Str) = some (.own T) := rfl
@[simp] theorem bF_o : (bF b o W T).lookup ("over_at" : Str) = some (.dat o) := rfl
@[simp] theorem bF_sw : setF "waters" (.own W') (bF b o W T) = bF b o W' T := rfl
@[simp] theorem bF_sd : setF "done" (.own T') (bF b o W T) = bF b o W T' := rfl
@[simp] theorem bF_po : putT "over_at" (.dat o') (bF b o W T) = bF b o' W T := rfl
end
/-- .. as data -/
def bG (b : Bn) (o : DD) (U T : List DD) : List (Str × DD) := [("first_tanks", .tup (b.vs.map Vat.d)), ("told_width", rT b.x), ("all_widths", dW .t b.ws), ("waters", .lst U), ("done", .lst T), ("over_at", o)]
section
variable {b : Bn} {o : DD} {U T : List DD}
@[simp] theorem bG_f : (bG b o U T).lookup ("first_tanks" : Str) = some (.tup (b.vs.map Vat.d)) := rfl
@[simp] theorem bG_x : (bG b o U T).lookup ("told_width" : Str) = some (rT b.x) := rfl
@[simp] theorem bG_a : (bG b o U T).lookup ("all_widths" : Str) = some (dW .t b.ws) := rfl
@[simp] theorem bG_w : (bG b o U T).lookup ("waters" : Str) = some (.lst U) := rfl
@[simp] theorem bG_d : (bG b o U T).lookup ("done" : Str) = some (.lst T) := rfl
@[simp] theorem bG_o : (bG b o U T).lookup ("over_at" : Str) = some o := rfl
@[simp] theorem bG_m1 : (bG b o U T).lookup ("levels" : Str) = none := rfl
@[simp] theorem bG_m2 : (bG b o U T).lookup ("water" : Str) = none := rfl
@[simp] theorem bG_m3 : (bG b o U T).lookup ("script" : Str) = none := rfl
end
@[simp] theorem bF_data (b : Bn) (o : DD) (W T : List SV) : SV.dataF (bF b o W T) = bG b o (W.map SV.data) (T.map SV.data) := by
  simp only [bF, bG, SV.dataF, SV.data, SV.datas_eq]
@[simp] theorem ob_data (C : Addr) (fs : List (Str × SV)) : (SV.ob C fs).data = .obj C (SV.dataF fs) := rfl
def Bn.U (b : Bn) : List DD := (scanW b.ws (amts b.vs) b.E).map dQ
def bD (C : Addr) (b : Bn) : DD := .obj C (bG b b.od b.U (b.E.map Deed.d))
structure BT (C : Addr) (b : Bn) (t : SV) : Prop where
  ex : ∃ W T, t = .ob C (bF b b.od W T) ∧ W.map SV.data = b.U ∧ T.map SV.data = b.E.map Deed.d
theorem BT.data {C : Addr} {b : Bn} {t : SV} (h : BT C b t) : t.data = bD C b := by
  obtain ⟨W, T, rfl, h1, h2⟩ := h.ex
  rw [ob_data, bF_data, h1, h2]
  rfl
/-- the last waters of a bench -/
theorem U_snoc {b : Bn} {W : List SV} (h : W.map SV.data = b.U) : ∃ W0 w, W = W0 ++ [w] ∧ w.data = dQ b.u := by
  have hl : (W.map SV.data).getLast? = some (dQ b.u) := by
    rw [h, Bn.U, List.getLast?_map, scanW_last]
    rfl
  rw [List.getLast?_map] at hl
  cases e : W.getLast? with
  | none => rw [e] at hl; cases hl
  | some w =>
    rw [e] at hl
    have hw : w.data = dQ b.u := by simpa using hl
    obtain ⟨W0, rfl⟩ := List.getLast?_eq_some_iff.mp e
    exact ⟨W0, w, rfl, hw⟩
theorem U_end (b : Bn) : atI b.U (-1) = some (dQ b.u) := by
  rw [atI_end, Bn.U, List.getLast?_map, scanW_last]
  rfl
theorem U_next {b : Bn} {W : List SV} {e : Deed} {o : Bool} (h : W.map SV.data = b.U) (w : SV) (hw : w.data = dQ (stepW b.ws b.u e)) : (W ++ [w]).map SV.data = (⟨b.vs, b.x, b.E ++ [e], o⟩ : Bn).U := by
  rw [List.map_append, h, Bn.U, Bn.U]
  show _ = (scanW b.ws (amts b.vs) (b.E ++ [e])).map dQ
  rw [scanW_snoc, List.map_append, List.map_singleton, List.map_singleton, hw]
  rfl
theorem set_last {W : List SV} {w v : SV} : (W ++ [w]).set W.length v = W ++ [v] := by simp
theorem BT.mk' {C : Addr} {b : Bn} {o : DD} {W T : List SV} (ho : o = b.od) (h1 : W.map SV.data = b.U) (h2 : T.map SV.data = b.E.map Deed.d) : BT C b (.ob C (bF b o W T)) := by
  subst ho
  exact ⟨W, T, rfl, h1, h2⟩
theorem Bn.sz {b : Bn} (ok : b.ok) : Wd b.x b.ws ∧ b.ws.length = b.u.length ∧ b.u.length = b.vs.length ∧ b.u.length ≤ 20 ∧ ∃ D : Nat, 0 < D ∧ Sm 4000 (D : Int) ∧ Wz D b.u := by
  obtain ⟨D, r⟩ := ran_ok ok.v ok.x ok.q _ b.E rfl ok.e
  obtain ⟨wz, sD⟩ := r.wz ok.v ok.n ok.e
  have rl : b.u.length = b.vs.length := r.l
  have := ok.v.n
  exact ⟨wd_of ok.v ok.x, by rw [rl]; simp [Bn.ws], rl, by omega, D, r.d0, sD, wz⟩
def isU : Deed → Bool
  | .un _ _ => true
  | _ => false
theorem isU_no {e : Deed} (h : isU e = false) : ∀ i j, e ≠ .un i j := fun i j z => by subst z; cases h
theorem tree_word {s : SV} {e : Deed} (h : s.data = e.d) : s = .dat e.d ∨ ∃ z r ts, s = .tp (.dat (.str z) :: ts) ∧ e.d = .tup (.str z :: r) := by
  have ez : ∃ z r, e.d = .tup (.str z :: r) := by cases e <;> exact ⟨_, _, rfl⟩
  obtain ⟨z, r, ez⟩ := ez
  cases s with
  | dat d => left; rw [← h]; rfl
  | own ts => rw [ez] at h; cases h
  | ob C fs => rw [ez] at h; cases h
  | ex _ _ _ _ => rw [ez] at h; cases h
  | tp ts =>
    right
    rw [ez] at h
    cases ts with
    | nil => cases h
    | cons a ts =>
      simp only [SV.data, SV.datas, DD.tup.injEq, List.cons.injEq] at h
      cases a with
      | dat d =>
        have : d = .str z := h.1
        subst this
        exact ⟨z, r, ts, rfl, ez⟩
      | own _ => cases h.1
      | ob _ _ => cases h.1
      | tp _ => cases h.1
      | ex _ _ _ _ => cases h.1
theorem un_test {s : SV} {t : Option SV} {e : Deed} {x2 x3 : Option SV} (h : s.data = e.d) (Q : Bool → Rho → Prop) (q : Q (isU e) [t, some s, x2, x3]) :
    fTst (fBin oEqS (vO (fPd (qI (kC 0) (qN 1)))) (vO (fC (DD.str (Str.ofString "unless"))))) [t, some s, x2, x3] Q := by
  rcases tree_word h with rfl | ⟨z, r, ts, rfl, ez⟩
  · cases e <;> simpa [Deed.d, isU] using q
  · have key : decide (z = Str.ofString "unless") = isU e := by
      cases e <;> simp [Deed.d] at ez <;> obtain ⟨ez, _⟩ := ez <;> subst ez <;> simp [isU]
    have ix : ixN (ts.length + 1) 0 = some 0 := by unfold ixN; simp
    simp [ix]
    rw [← key] at q
    by_cases y : z = Str.ofString "unless"
    · rw [decide_eq_true y] at q
      simpa [y] using q
    · rw [decide_eq_false y] at q
      simpa [y] using q
section
variable (C : Addr)
def cBInit : Ctr := fun as Q => ∃ (vs : List Vat) (x : Rat), as = [.ob C [], .dat (.lst (vs.map Vat.d)), .dat (rT x)] ∧ VatsOk vs ∧ 0 < x ∧ ∀ t, BT C ⟨vs, x, [], false⟩ t → flatT t = true → Q (.dat .non) [t, .dat (.lst (vs.map Vat.d)), .dat (rT x)]
def cBCall : Ctr := fun as Q => ∃ (b : Bn) (e : Deed) (t s : SV), as = [t, s] ∧ BT C b t ∧ b.ok ∧ b.o = false ∧ s.data = e.d ∧ e.ok b.vs.length ∧ b.E.length < 60 ∧ ∀ t', BT C ⟨b.vs, b.x, b.E ++ [e], endW b.ws b.u e⟩ t' → Q (.dat (.bl (endW b.ws b.u e))) [t', s]
def cBLevels : Ctr := fun as Q => ∃ b : Bn, as = [.dat (bD C b)] ∧ b.ok ∧ Q (oQ (levs b.ws b.u)) as
def cBWater : Ctr := fun as Q => ∃ b : Bn, as = [.dat (bD C b)] ∧ b.ok ∧ Q (.dat (rT (tot b.u))) as
def cBEnded : Ctr := fun as Q => ∃ b : Bn, as = [.dat (bD C b)] ∧ Q (.dat b.od) as
end
theorem ix_word (e : Deed) : ∃ z, ∀ P : DD → Prop, P (.str z) → ixT (.dat e.d) 0 P := by
  cases e <;> exact ⟨_, fun P h => by simpa [Deed.d] using h⟩
theorem cp_vats (vs : List Vat) : cp (.lst (vs.map Vat.d)) = .own ((vs.map Vat.d).map .dat) := by
  rw [cp, cps_eq]
  congr 1
  rw [List.map_map, List.map_map]
  refine List.map_congr_left fun v _ => ?_
  obtain ⟨w, a⟩ := v
  cases w <;> rfl
theorem okC_vats {vs : List Vat} (h : VatsOk vs) : okC 8 (.lst (vs.map Vat.d)) := by
  have := h.n
  refine ⟨by simp; omega, fun d m => ?_⟩
  obtain ⟨v, _, rfl⟩ := List.mem_map.mp m
  obtain ⟨w, a⟩ := v
  cases w <;> simp [Vat.d, okC]
/-! the law's own draws -/
def cPart : Ctr := fun as Q => ∃ (s : SV) (c : Nat) (m : Int), as = [s, .dat (.int m)] ∧ Sk c s ∧ c < 2 ^ 50 ∧ 1 ≤ m ∧ m ≤ 1000 ∧ ∀ p s' c', Prt p → Sk c' s' → c' ≤ c + 2 → Q (.dat (rT p)) [s', .dat (.int m)]
def cTwo : Ctr := fun as Q => ∃ (s : SV) (c : Nat) (m : Nat), as = [s, .dat (.int m)] ∧ Sk c s ∧ c < 2 ^ 50 ∧ 2 ≤ m ∧ m ≤ 20 ∧ ∀ (i j : Nat) s' c', i < m → j < m → i ≠ j → Sk c' s' → c' ≤ c + 2 → Q (.dat (.tup [.int i, .int j])) [s', .dat (.int m)]
def cVats : Ctr := fun as Q => ∃ (s : SV) (c : Nat) (m : Nat) (b : Int), as = [s, .dat (.int m), .dat (.int b)] ∧ Sk c s ∧ c < 2 ^ 50 ∧ 1 ≤ m ∧ m ≤ 20 ∧ 1 ≤ b ∧ b ≤ 1000 ∧ ∀ (vs : List Vat) s' c', VatsOk vs → vs.length = m → Sk c' s' → c' ≤ c + 100 →
  Q (.own ((vs.map Vat.d).map .dat)) [s', .dat (.int m), .dat (.int b)]
def words : List Str := ["open", "pour", "scoop", "move", "unless"]
def words2 : List Str := ["pour", "scoop", "move", "open", "unless"]
def cDeed : Ctr := fun as Q => ∃ (s : SV) (c : Nat) (m : Nat) (b : Int) (zs : List Str), as = [s, .dat (.int m), .dat (.int b), .dat (.lst (zs.map .str))] ∧ Sk c s ∧ c + 10 < 2 ^ 50 ∧ 1 ≤ m ∧ m ≤ 20 ∧ 1 ≤ b ∧ b ≤ 1000 ∧ zs ≠ [] ∧ zs.length ≤ 20 ∧ (∀ z ∈ zs, z ∈ words) ∧
  ∀ (e : Deed) s' c', e.ok m → Sk c' s' → c' ≤ c + 100 → Q (.dat e.d) [s', .dat (.int m), .dat (.int b), .dat (.lst (zs.map .str))]
def dShape (vs : List Vat) (ds : List Deed) : DD := .tup [.lst (vs.map Vat.d), .lst (ds.map Deed.d)]
def cShape : Ctr := fun as Q => ∃ (s : SV) (c : Nat), as = [s] ∧ Sk c s ∧ c < 2 ^ 49 ∧ ∀ (vs : List Vat) (ds : List Deed) s' c', VatsOk vs → ds.length ≤ 60 → (∀ e ∈ ds, e.ok vs.length) → Sk c' s' → c' ≤ c + 100000 → Q (.dat (dShape vs ds)) [s']
def cAny : Ctr := fun as Q => ∃ (s : SV) (c : Nat), as = [s] ∧ Sk c s ∧ c < 2 ^ 48 ∧ ∀ (vs : List Vat) (ds : List Deed) (b : Int) s' c', VatsOk vs → ds.length ≤ 60 → (∀ e ∈ ds, e.ok vs.length) → 1 ≤ b → b ≤ 1000 → Sk c' s' → c' ≤ c + 200000 → Q (.dat (.tup [dShape vs ds, .int b])) [s']
def cWidth : Ctr := fun as Q => ∃ (s : SV) (c : Nat), as = [s] ∧ Sk c s ∧ c < 2 ^ 50 ∧ ∀ x s' c', 0 < x → Qb 51 x → Sk c' s' → c' ≤ c + 8 → Q (.dat (rT x)) [s']
def cWidthA : Ctr := fun as Q => ∃ (s : SV) (c : Nat), as = [s] ∧ Sk c s ∧ c < 2 ^ 49 ∧ ∀ x s' c', 0 < x → Qb 51 x → Sk c' s' → c' ≤ c + 16 → Q (.dat (rT x)) [s']
section
variable (C : Addr)
def cBench : Ctr := fun as Q => ∃ (s : SV) (c : Nat) (vs : List Vat) (x : Rat), as = [s, .dat (.lst (vs.map Vat.d)), .dat (rT x)] ∧ Sk c s ∧ c < 2 ^ 50 ∧ VatsOk vs ∧ 0 < x ∧ ∀ t s' c', BT C ⟨vs, x, [], false⟩ t → Sk c' s' → c' ≤ c + 1 → Q t [s', .dat (.lst (vs.map Vat.d)), .dat (rT x)]
def cDoes : Ctr := fun as Q => ∃ (s : SV) (c : Nat) (b : Bn) (e : Deed) (t : SV), as = [s, t, .dat e.d] ∧ Sk c s ∧ c < 2 ^ 50 ∧ BT C b t ∧ b.ok ∧ b.o = false ∧ e.ok b.vs.length ∧ b.E.length < 60 ∧ ∀ t' s' c', BT C ⟨b.vs, b.x, b.E ++ [e], endW b.ws b.u e⟩ t' → Sk c' s' → c' ≤ c + 1 → Q (.dat (.bl (endW b.ws b.u e))) [s', t', .dat e.d]
end
end My

namespace My
open PySem PySem.Spec PyProof.Rows L2 DL PySem.NumText
/-! ### texts of integers -/
theorem snocI {α : Type} {P : List α → Prop} (h0 : P []) (h1 : ∀ l a, P l → P (l ++ [a])) : ∀ l, P l := fun l => by
  rw [← l.reverse_reverse]
  induction l.reverse with
  | nil => exact h0
  | cons a r ih => rw [List.reverse_cons]; exact h1 _ _ ih
theorem dval_one (d : Nat) : digitsVal [d] = d - 48 := by simp [digitsVal]
theorem dval_pos : ∀ {ds : List Nat}, AllDigits ds → (∃ c r, ds = c :: r ∧ c ≠ 48) → 0 < digitsVal ds := by
  intro ds
  induction ds using snocI with
  | h0 => rintro _ ⟨c, r, h, _⟩; cases h
  | h1 l d ih =>
    rintro h ⟨c, r, e, hc⟩
    rw [digitsVal_snoc]
    cases l with
    | nil =>
      have : d = c := by simpa using (List.cons.inj e).1
      have := h d (by simp)
      simp [digitsVal]
      omega
    | cons a l =>
      have : a = c := by simpa using (List.cons.inj e).1
      have := ih (fun x m => h x (List.mem_append_left _ m)) ⟨a, l, rfl, by omega⟩
      omega
theorem digit_chr {d : Nat} (h : 48 ≤ d ∧ d ≤ 57) : (Nat.digitChar (d - 48)).toNat = d := by
  have key : ∀ n, n < 10 → (Nat.digitChar n).toNat = n + 48 := by decide
  rw [key _ (by omega)]
  omega
/-- digits without a zero ahead of others are what is written of their number -/
theorem digs_back : ∀ {ds : List Nat}, AllDigits ds → (∃ c r, ds = c :: r ∧ c ≠ 48) → (Nat.toDigits 10 (digitsVal ds)).map Char.toNat = ds := by
  intro ds
  induction ds using snocI with
  | h0 => rintro _ ⟨c, r, h, _⟩; cases h
  | h1 l d ih =>
    rintro h ⟨c, r, e, hc⟩
    have hd := h d (by simp)
    rw [digitsVal_snoc]
    cases l with
    | nil =>
      rw [show digitsVal ([] : List Nat) * 10 + (d - 48) = d - 48 by simp [digitsVal], Nat.toDigits_of_lt_base (by omega)]
      simp [digit_chr hd]
    | cons a l =>
      have ea : a = c := by simpa using (List.cons.inj e).1
      have hl : AllDigits (a :: l) := fun x m => h x (List.mem_append_left _ m)
      have ne : ∃ c r, a :: l = c :: r ∧ c ≠ 48 := ⟨a, l, rfl, by omega⟩
      have pos := dval_pos hl ne
      have t := Nat.toDigits_append_toDigits (b := 10) (n := digitsVal (a :: l)) (d := d - 48) (by decide) pos (by omega)
      rw [Nat.mul_comm, ← t, List.map_append, ih hl ne, Nat.toDigits_of_lt_base (by omega)]
      simp [digit_chr hd]
theorem digs_lead (n : Nat) (hn : 0 < n) : ∃ c r, (Nat.toDigits 10 n).map Char.toNat = c :: r ∧ c ≠ 48 := by
  induction n using Nat.strongRecOn with
  | _ n ih =>
    by_cases h : n < 10
    · rw [Nat.toDigits_of_lt_base h]
      have key : ∀ n, n < 10 → (Nat.digitChar n).toNat = n + 48 := by decide
      exact ⟨_, [], rfl, by rw [key n h]; omega⟩
    · obtain ⟨c, r, e, hc⟩ := ih (n / 10) (by omega) (by omega)
      have t := Nat.toDigits_append_toDigits (b := 10) (n := n / 10) (d := n % 10) (by decide) (by omega) (by omega)
      rw [Nat.div_add_mod] at t
      rw [← t, List.map_append, e]
      exact ⟨c, _, rfl, hc⟩
theorem tos_cps (i : Int) : ((toString i : String) : Str).cps.toList = icps i := signs_ofString _
/-- a piece behind its sign -/
def bare (p : List Nat) : List Nat := if p.head? = some 45 then p.tail else p
def dg (c : Nat) : Bool := decide (48 ≤ c) && decide (c ≤ 57)
def okB (p : List Nat) : Bool := decide (1 ≤ (bare p).length) && decide ((bare p).length ≤ 9) && (bare p).all dg
/-- it is an integer, as it is written -/
def canon (p : List Nat) : Bool := okB p && (decide ((bare p).head? ≠ some 48) || decide (p = [48]))
def valB (p : List Nat) : Int := if p.head? = some 45 then -((digitsVal p.tail : Nat) : Int) else ((digitsVal p : Nat) : Int)
theorem okB_all {p : List Nat} (h : okB p = true) : AllDigits (bare p) ∧ bare p ≠ [] ∧ (bare p).length ≤ 9 := by
  simp only [okB, Bool.and_eq_true, decide_eq_true_eq, List.all_eq_true, dg] at h
  exact ⟨fun c m => h.2 c m, fun z => by rw [z] at h; simp at h, h.1.2⟩
theorem int_of {p : Str} (h : okB p.cps.toList = true) : PySem.intText? p = some (valB p.cps.toList) := by
  obtain ⟨a, ne, l⟩ := okB_all h
  have hl : p.cps.toList.length = p.length := Array.length_toList
  unfold valB
  unfold bare at a ne l
  split
  · next hp =>
    rw [if_pos hp] at a ne l
    cases e : p.cps.toList with
    | nil => rw [e] at hp; cases hp
    | cons c r =>
      rw [e] at hp a ne l hl
      obtain rfl : c = 45 := Option.some.inj hp
      exact intText_neg e a ne (by simp at l hl; omega)
  · next hp =>
    rw [if_neg hp] at a ne l
    exact intText_digits a ne (by omega)
theorem canon_iff {p : List Nat} (h : okB p = true) : canon p = decide (icps (valB p) = p) := by
  obtain ⟨a, ne, l⟩ := okB_all h
  rw [canon, h, Bool.true_and]
  by_cases hp : p.head? = some 45
  · obtain ⟨r, rfl⟩ : ∃ r, p = 45 :: r := by
      cases p with
      | nil => cases hp
      | cons c r => exact ⟨r, by rw [Option.some.inj hp]⟩
    have eb : bare (45 :: r) = r := by simp [bare]
    have ev : valB (45 :: r) = -((digitsVal r : Nat) : Int) := by simp [valB]
    rw [eb] at a ne
    rw [eb, ev, decide_eq_false (show ¬ (45 :: r = [48]) by simp), Bool.or_false]
    obtain ⟨c, s, rfl⟩ : ∃ c s, r = c :: s := List.exists_cons_of_ne_nil ne
    refine decide_eq_decide.mpr ⟨fun hc => ?_, fun e z => ?_⟩
    · have hc : c ≠ 48 := fun z => hc (by simp [z])
      have pos := dval_pos a ⟨c, s, rfl, hc⟩
      obtain ⟨m, hm⟩ : ∃ m, digitsVal (c :: s) = m + 1 := ⟨_, (Nat.succ_pred_eq_of_pos pos).symm⟩
      rw [hm, show -((m + 1 : Nat) : Int) = Int.negSucc m from rfl, icps_neg, ← hm, digs_back a ⟨c, s, rfl, hc⟩]
    · obtain rfl : c = 48 := by simpa using z
      cases hv : digitsVal (48 :: s) with
      | zero =>
        rw [hv] at e
        have : icps (-((0 : Nat) : Int)) = [48] := by decide
        rw [this] at e
        simp at e
      | succ m =>
        rw [hv, show -((m + 1 : Nat) : Int) = Int.negSucc m from rfl, icps_neg] at e
        obtain ⟨c, r, e2, hc⟩ := digs_lead (m + 1) (by omega)
        rw [e2] at e
        exact hc (List.cons.inj (List.cons.inj e).2).1
  · have eb : bare p = p := by simp [bare, hp]
    have ev : valB p = ((digitsVal p : Nat) : Int) := by simp [valB, hp]
    rw [eb] at a ne
    rw [eb, ev, ← Bool.decide_or]
    obtain ⟨c, s, rfl⟩ : ∃ c s, p = c :: s := List.exists_cons_of_ne_nil ne
    refine decide_eq_decide.mpr ⟨fun hc => ?_, fun e => ?_⟩
    · rw [icps_ofNat]
      by_cases h0 : c = 48
      · rcases hc with hc | hc
        · exact absurd (by rw [h0]; rfl) hc
        · rw [hc]; decide
      · exact digs_back a ⟨c, s, rfl, h0⟩
    · by_cases h0 : c = 48
      · refine .inr ?_
        cases hv : digitsVal (c :: s) with
        | zero =>
          rw [hv] at e
          have : icps ((0 : Nat) : Int) = [48] := by decide
          rw [← e, this]
        | succ m =>
          rw [hv, icps_ofNat] at e
          obtain ⟨c', r, e2, hc⟩ := digs_lead (m + 1) (by omega)
          rw [e2] at e
          exact absurd ((List.cons.inj e).1.trans h0) hc
      · exact .inl fun z => h0 (Option.some.inj z)
end My

namespace My
open PySem PySem.Spec PyProof.Rows L2 DL
def top (i : Nat) : Stmt := PySem.Challenge.pw_valvelevels_k55_polynomials_that_are_non.main.body.getD i (.Pass ⟨0, 0, 0, 0⟩)
abbrev s_show_polynomial : Stmt := top 5
abbrev s_number_in : Stmt := top 9
abbrev s_read_polynomial : Stmt := top 10
abbrev s__law_purse : Stmt := top 12
abbrev s__law_coin : Stmt := top 13
abbrev s__law_is_number : Stmt := top 14
abbrev s__law_polynomial_of : Stmt := top 15
abbrev s__law_caught_one : Stmt := top 16
abbrev s__law_odd_one : Stmt := top 17
abbrev s__law_marred_one : Stmt := top 18
abbrev s__law_right : Stmt := top 19
abbrev s_law : Stmt := top 20
abbrev s_TankError_init : Stmt := clsAt (top 1) 0
end My
namespace My
open PySem PySem.Spec PyProof.Rows L2 DL
def d_TankError_init : He.DefD := ⟨("TankError", some "__init__"), "__init__", "TankError.__init__", defArgs s_TankError_init, defBody s_TankError_init, defScope s_TankError_init, [], []⟩
def d_show_polynomial : He.DefD := ⟨("show_polynomial", none), "show_polynomial", "show_polynomial", defArgs s_show_polynomial, defBody s_show_polynomial, defScope s_show_polynomial, [], []⟩
def d_number_in : He.DefD := ⟨("number_in", none), "number_in", "number_in", defArgs s_number_in, defBody s_number_in, defScope s_number_in, [], []⟩
def d_read_polynomial : He.DefD := ⟨("read_polynomial", none), "read_polynomial", "read_polynomial", defArgs s_read_polynomial, defBody s_read_polynomial, defScope s_read_polynomial, [], []⟩
def d__law_purse : He.DefD := ⟨("_law_purse", none), "_law_purse", "_law_purse", defArgs s__law_purse, defBody s__law_purse, defScope s__law_purse, [], []⟩
def d__law_coin : He.DefD := ⟨("_law_coin", none), "_law_coin", "_law_coin", defArgs s__law_coin, defBody s__law_coin, defScope s__law_coin, [], []⟩
def d__law_is_number : He.DefD := ⟨("_law_is_number", none), "_law_is_number", "_law_is_number", defArgs s__law_is_number, defBody s__law_is_number, defScope s__law_is_number, [], []⟩
def d__law_polynomial_of : He.DefD := ⟨("_law_polynomial_of", none), "_law_polynomial_of", "_law_polynomial_of", defArgs s__law_polynomial_of, defBody s__law_polynomial_of, defScope s__law_polynomial_of, [], []⟩
def d__law_caught_one : He.DefD := ⟨("_law_caught_one", none), "_law_caught_one", "_law_caught_one", defArgs s__law_caught_one, defBody s__law_caught_one, defScope s__law_caught_one, [], []⟩
def d__law_odd_one : He.DefD := ⟨("_law_odd_one", none), "_law_odd_one", "_law_odd_one", defArgs s__law_odd_one, defBody s__law_odd_one, defScope s__law_odd_one, [], []⟩
def d__law_marred_one : He.DefD := ⟨("_law_marred_one", none), "_law_marred_one", "_law_marred_one", defArgs s__law_marred_one, defBody s__law_marred_one, defScope s__law_marred_one, [], []⟩
def d__law_right : He.DefD := ⟨("_law_right", none), "_law_right", "_law_right", defArgs s__law_right, defBody s__law_right, defScope s__law_right, [], []⟩
def d_law : He.DefD := ⟨("law", none), "law", "law", defArgs s_law, defBody s_law, defScope s_law, [], []⟩
def fn : List He.DefD := [d_show_polynomial, d_number_in, d_read_polynomial, d__law_purse, d__law_coin, d__law_is_number, d__law_polynomial_of, d__law_caught_one, d__law_odd_one, d__law_marred_one, d__law_right, d_law, d_TankError_init]
def tbs : List He.Tab := []
def tbi : List (Str × List (Str × Int)) := []
def xfi : List (PySem.W.Frag → Bool) := [(fun K => match PySem.W.findCls K (.type "ValueError") (.type "type") "__init__" with | some (.val (.builtin n)) => decide (n = "ValueError.__init__") | _ => false), (fun K => DL.xclB K (He.ga K "TankError") (He.ma K (He.ga K "TankError") "__init__")), (fun K => DL.xclB K (He.ga K "Unreadable") (He.ma K (He.ga K "TankError") "__init__")), (fun K => DL.xclB K (He.ga K "InvalidPolynomial") (He.ma K (He.ga K "TankError") "__init__")), (fun K => decide (PySem.W.exmOne K (.ref (He.ga K "Unreadable")) (.ref (He.ga K "TankError")) = some true)), (fun K => decide (PySem.W.kitOne K (.ref (He.ga K "Unreadable")) (.ref (He.ga K "InvalidPolynomial")) = some false)), (fun K => decide (PySem.W.kitOne K (.ref (He.ga K "Unreadable")) (.ref (He.ga K "Unreadable")) = some true))]
def prs : List DL.PrD := []
def fa : List He.Fa := [.glo "show_polynomial", .glo "number_in", .glo "read_polynomial", .glo "_law_purse", .glo "_law_coin", .glo "_law_is_number", .glo "_law_polynomial_of", .glo "_law_caught_one", .glo "_law_odd_one", .glo "_law_marred_one", .glo "_law_right", .glo "law", .glo "TankError", .glo "InvalidPolynomial", .glo "Unreadable", .free "ValueError", .free "abs", .free "all", .free "int", .free "isinstance", .free "len", .free "max", .free "min", .free "range", .free "str", .str "DIGITS" "0123456789", .int "MOST_DIGITS" 9]
abbrev R : PySem.W.OpenRow := PySem.W.OpenLaw.row PySem.Challenge.rw_valvelevels_k55_polynomials_that_are_non
abbrev hk : PySem.W.Hook := DL.hookX 6 fa fn tbs prs tbi xfi
def ob (s : PySem.W.SharedT) : DL.AlX := DL.obsXG 6 fa fn tbs prs tbi xfi (HandSHeadRun.getT s)
theorem ob_eq (s : PySem.W.SharedT) : ob s = hk.obs s.abs := DL.obsXG_eq (HandSHeadRun.getT_eq s)
def loose : List PySem.Str := (["TankError", "InvalidPolynomial", "Unreadable", "show_polynomial", "DIGITS", "MOST_DIGITS", "number_in", "read_polynomial", "_law_purse", "_law_coin", "_law_is_number", "_law_polynomial_of", "_law_caught_one", "_law_odd_one", "_law_marred_one", "_law_right"] : List PySem.Str)
theorem run (w : World) : HandSHeadRun.RunEq R (PySem.W.view R.prog [20]) hk ob 6000 loose w := by
  intro os
  kernel_rfl

end My
namespace My
open PySem PySem.Spec PyProof.Rows L2 DL PySem.NumText
/-! ### polynomials of texts -/
def Tx (n : Nat) (w : Str) : Prop := w.length ≤ n ∧ ∀ c ∈ w.cps.toList, c < 128
instance (n : Nat) (w : Str) : Decidable (Tx n w) := inferInstanceAs (Decidable (w.length ≤ n ∧ ∀ c ∈ w.cps.toList, c < 128))
theorem Tx.mono {n m : Nat} {w : Str} (h : Tx n w) (hm : n ≤ m) : Tx m w := ⟨Nat.le_trans h.1 hm, h.2⟩
theorem len_cps (w : Str) : w.cps.toList.length = w.length := Array.length_toList
theorem str_ext {a b : Str} (h : a.cps.toList = b.cps.toList) : a = b := by
  cases a
  cases b
  congr 1
  exact Array.toList_inj.mp h
def can (p : Str) : Bool := canon p.cps.toList
def val (p : Str) : Int := valB p.cps.toList
def numD (p : Str) : DD := if can p = true then .int (val p) else .non
def blank : Str := " "
def readT (w : Str) : Option (List Int) := if (Txt.split w blank).all can = true then (if w = ("0" : Str) then some [] else if (Txt.split w blank).getLast? = some ("0" : Str) then none else some ((Txt.split w blank).map val)) else none
def showT (l : List Int) : Str := if l = [] then ("0" : Str) else Txt.join blank (l.map fun n => ((toString n : String) : Str))
def resD (w : Str) : DD := match readT w with
  | none => .lst []
  | some l => .lst [dI l]
theorem can_ok {p : Str} (h : can p = true) : okB p.cps.toList = true := by
  unfold can canon at h
  exact (Bool.and_eq_true_iff.mp h).1
theorem can_back {p : Str} (h : can p = true) : ((toString (val p) : String) : Str) = p := by
  have := canon_iff (can_ok h)
  rw [show canon p.cps.toList = true from h] at this
  have e := of_decide_eq_true this.symm
  exact str_ext ((tos_cps _).trans e)
theorem can_zero {p : Str} (h : can p = true) (z : val p = 0) : p = ("0" : Str) := by
  rw [← can_back h, z]
  rfl
theorem can0 : can ("0" : Str) = true := by decide +kernel
theorem val0 : val ("0" : Str) = 0 := by decide +kernel
theorem split_ne (w : Str) : Txt.split w blank ≠ [] := fun z => by
  have := PyProof.Rows.split_pos w blank
  rw [z] at this
  simp at this
theorem show_back {w : Str} (h : (Txt.split w blank).all can = true) : showT ((Txt.split w blank).map val) = w := by
  have ne := split_ne w
  unfold showT
  rw [if_neg (by simpa using ne), List.map_map]
  have : (Txt.split w blank).map ((fun n => ((toString n : String) : Str)) ∘ val) = Txt.split w blank := by
    conv => rhs; rw [← List.map_id (Txt.split w blank)]
    exact List.map_congr_left fun p m => can_back (List.all_eq_true.mp h p m)
  rw [this]
  exact (PySem.StrLaws.glued_eq_join _ _).trans (PySem.StrLaws.join_split w blank)
theorem is_zero {w : Str} (h : (Txt.split w blank).all can = true) : (Txt.split w blank).map val = [0] ↔ w = ("0" : Str) := by
  constructor
  · intro e
    have sb := show_back h
    rw [e] at sb
    rw [← sb]
    decide +kernel
  · rintro rfl
    decide +kernel
theorem last_zero {w : Str} (h : (Txt.split w blank).all can = true) : ((Txt.split w blank).map val).getLast? = some 0 ↔ (Txt.split w blank).getLast? = some ("0" : Str) := by
  rw [List.getLast?_map]
  cases e : (Txt.split w blank).getLast? with
  | none => simp
  | some p =>
    have hp := List.all_eq_true.mp h p (List.mem_of_getLast? e)
    simp only [Option.map_some, Option.some.injEq]
    exact ⟨fun z => can_zero hp z, fun z => by rw [z]; exact val0⟩
section
variable (Cu : Addr)
def cNumIn : Ctr := fun as Q => ∃ p, as = [.dat (.str p)] ∧ Tx 10000 p ∧ Q (.dat (numD p)) as
def cShowP : Ctr := fun as Q => ∃ l : List Int, as = [.dat (dI l)] ∧ l.length ≤ 3100 ∧ (∀ n ∈ l, Sm 40 n) ∧ Q (.dat (.str (showT l))) as
def cReadP : Ctr := fun as Q => ∃ w l, as = [.dat (.str w)] ∧ Tx 3000 w ∧ readT w = some l ∧ ∀ t : SV, t.data = dI l → Q t as
def xReadP : XCtr := fun as Q => ∃ w, as = [.dat (.str w)] ∧ Tx 3000 w ∧ readT w = none ∧ Q Cu (.dat (.str w)) as
def cIsNum : Ctr := fun as Q => ∃ p, as = [.dat (.str p)] ∧ Tx 10000 p ∧ Q (.dat (.bl (can p))) as
def cPolyOf : Ctr := fun as Q => ∃ w, as = [.dat (.str w)] ∧ Tx 3000 w ∧ ∀ t : SV, t.data = resD w → Q t as
def cCaughtP : Ctr := fun as Q => ∃ (w : Str) (m : Int), as = [.dat (.str w), .dat (.int m)] ∧ Tx 3000 w ∧ ∀ t : SV, t.data = resD w → Q t as
def cOddP : Ctr := fun as Q => ∃ (s : SV) (c : Nat) (w : Str), as = [s, .dat (.str w)] ∧ Sk c s ∧ c < 2 ^ 52 ∧ Tx 100 w ∧ ∀ w' s' c', Tx 20000 w' → Sk c' s' → c' ≤ c + 10 → Q (.dat (.str w')) [s', .dat (.str w)]
def cMarP : Ctr := fun as Q => ∃ (s : SV) (c : Nat) (w : Str), as = [s, .dat (.str w)] ∧ Sk c s ∧ c < 2 ^ 50 ∧ Tx 100 w ∧ ∀ w' s' c', Tx 20000 w' → Sk c' s' → c' ≤ c + 20 → Q (.dat (.str w')) [s', .dat (.str w)]
def cRightP : Ctr := fun as Q => ∃ (s : SV) (c : Nat), as = [s] ∧ Sk c s ∧ c < 2 ^ 48 ∧ ∀ s' c', Sk c' s' → c' ≤ c + 300 → Q (.dat (.bl true)) [s']
end
/-! slices, signs -/
theorem cut_one (p : Str) : (cutS p none (some 1)).cps.toList = p.cps.toList.take 1 := by
  have e1 : HT.sIx p.length 0 none = 0 := rfl
  have e2 : HT.sIx p.length p.length (some 1) = min 1 p.length := rfl
  unfold cutS
  rw [e1, e2, List.toList_toArray, List.drop_zero, Nat.sub_zero, ← len_cps]
  cases p.cps.toList with
  | nil => rfl
  | cons c r => simp
theorem cut_rest (p : Str) : (cutS p (some 1) none).cps.toList = p.cps.toList.drop 1 := by
  have e1 : HT.sIx p.length 0 (some 1) = min 1 p.length := rfl
  have e2 : HT.sIx p.length p.length none = p.length := rfl
  unfold cutS
  rw [e1, e2, List.toList_toArray, ← len_cps]
  cases h : p.cps.toList with
  | nil => rfl
  | cons c r => simp
theorem cut_minus (p : Str) : (cutS p none (some 1) = ("-" : Str)) ↔ p.cps.toList.head? = some 45 := by
  constructor
  · intro e
    have := congrArg (fun z : Str => z.cps.toList) e
    simp only [cut_one] at this
    have e2 : (("-" : String) : Str).cps.toList = [45] := by decide
    rw [e2] at this
    cases h : p.cps.toList with
    | nil => rw [h] at this; cases this
    | cons c r =>
      rw [h] at this
      simp at this
      simp [this]
  · intro h
    refine str_ext ?_
    rw [cut_one]
    cases e : p.cps.toList with
    | nil => rw [e] at h; cases h
    | cons c r =>
      rw [e] at h
      obtain rfl : c = 45 := Option.some.inj h
      have e2 : (("-" : String) : Str).cps.toList = [45] := by decide
      rw [e2]
      rfl
/-- a piece behind its sign, as a text -/
def bareS (p : Str) : Str := if p.cps.toList.head? = some 45 then cutS p (some 1) none else p
theorem bareS_cps (p : Str) : (bareS p).cps.toList = bare p.cps.toList := by
  unfold bareS bare
  split
  · rw [cut_rest, List.drop_one]
  · rfl
theorem in_digits (c : Nat) : (c ∈ (("0123456789" : String) : Str).cps.toList) ↔ dg c = true := by
  have e : (("0123456789" : String) : Str).cps.toList = [48, 49, 50, 51, 52, 53, 54, 55, 56, 57] := by decide +kernel
  rw [e]
  simp [dg]
  omega
/-! number_in -/
theorem bare_len (l : List Nat) : (bare l).length ≤ l.length ∧ l.length ≤ (bare l).length + 1 := by
  unfold bare
  split
  · simp
    omega
  · omega
theorem bareS_len (p : Str) : (bareS p).length ≤ p.length ∧ p.length ≤ (bareS p).length + 1 := by
  rw [← len_cps, ← len_cps, bareS_cps]
  exact bare_len _
theorem okB_eq (p : Str) : okB p.cps.toList = (decide (1 ≤ (bareS p).length) && decide ((bareS p).length ≤ 9) && (bareS p).cps.toList.all dg) := by
  rw [okB, ← len_cps, bareS_cps]
theorem numD_no {p : Str} (h : okB p.cps.toList = false) : numD p = .non := by simp [numD, can, canon, h]
theorem numD_yes {p : Str} (h : can p = true) : numD p = .int (valB p.cps.toList) := by rw [numD, if_pos h, val]
theorem okB_short {p : Str} (h : ¬ (1 : Int) ≤ ((bareS p).length : Nat)) : okB p.cps.toList = false := by
  rw [okB_eq, decide_eq_false (by omega : ¬ 1 ≤ (bareS p).length), Bool.false_and, Bool.false_and]
theorem okB_long {p : Str} (h : ¬ (((bareS p).length : Nat) : Int) ≤ 9) : okB p.cps.toList = false := by
  rw [okB_eq, decide_eq_false (by omega : ¬ (bareS p).length ≤ 9), Bool.and_false, Bool.false_and]
def dgD : DD → SV
  | .str z => .dat (.bl (match z.cps.toList with | c :: _ => dg c | [] => false))
  | _ => .dat .non
theorem in_dg (c : Nat) : decide (c ∈ (("0123456789" : String) : Str).cps) = dg c := by
  rw [Bool.eq_iff_iff, decide_eq_true_eq, ← Array.mem_toList_iff]
  exact in_digits c
theorem dgs_all (p : Str) : (SV.own ((strD p).map dgD)).data = .lst ((p.cps.toList.map dg).map .bl) := by
  rw [data_own, strD, List.map_map, List.map_map, List.map_map]
  rfl
theorem okB_dgs_no {p : Str} (h : false ∈ (bareS p).cps.toList.map dg) : okB p.cps.toList = false := by
  obtain ⟨c, m, e⟩ := List.mem_map.mp h
  rw [okB_eq]
  have : (bareS p).cps.toList.all dg = false := List.all_eq_false.mpr ⟨c, m, by rw [e]; decide⟩
  rw [this, Bool.and_false]
theorem okB_dgs {p : Str} (h1 : (1 : Int) ≤ ((bareS p).length : Nat)) (h2 : (((bareS p).length : Nat) : Int) ≤ 9) (h : false ∉ (bareS p).cps.toList.map dg) : okB p.cps.toList = true := by
  rw [okB_eq, decide_eq_true (by omega : 1 ≤ (bareS p).length), decide_eq_true (by omega : (bareS p).length ≤ 9), Bool.and_true, Bool.true_and]
  exact List.all_eq_true.mpr fun c m => by
    cases e : dg c with
    | true => rfl
    | false => exact absurd (List.mem_map.mpr ⟨c, m, e⟩) h
theorem bare_first {p : Str} (h : okB p.cps.toList = true) : ∃ c, atI (bareS p).cps.toList 0 = some c ∧ (bare p.cps.toList).head? = some c := by
  obtain ⟨_, ne, _⟩ := okB_all h
  obtain ⟨c, r, e⟩ := List.exists_cons_of_ne_nil ne
  exact ⟨c, by rw [bareS_cps, e]; simp [atI, ixN], by rw [e]; rfl⟩
theorem ok_len {p : Str} (h : okB p.cps.toList = true) : p.length ≤ 10 := by
  obtain ⟨_, _, l⟩ := okB_all h
  have := bareS_len p
  rw [← len_cps (bareS p), bareS_cps] at this
  omega
theorem sign_inj {c : Nat} (h : ({ cps := #[c] } : Str) = (("0" : String) : Str)) : c = 48 := by
  have := congrArg (fun z : Str => z.cps.toList) h
  have e2 : (("0" : String) : Str).cps.toList = [48] := by decide
  rw [e2] at this
  simpa using this
theorem zero_sign : ({ cps := #[48] } : Str) = (("0" : String) : Str) := by decide
theorem can_first {p : Str} {c : Nat} (h : okB p.cps.toList = true) (e : (bare p.cps.toList).head? = some c) (z : c ≠ 48) : can p = true := by
  rw [can, canon, h, e]
  simp [z]
theorem numD_lead {p : Str} (h : okB p.cps.toList = true) (e : (bare p.cps.toList).head? = some 48) (z : ¬ p = (("0" : String) : Str)) : numD p = .non := by
  have : can p = false := by
    rw [can, canon, h, e]
    simp
    intro y
    exact z (str_ext (by rw [y]; decide))
  rw [numD, if_neg (by rw [this]; decide)]
/-! show_polynomial -/
theorem okD_dI (l : List Int) : okD (dI l) = true := okD_lint
theorem eqD_dI (l : List Int) : eqD (dI l) (.lst []) = decide (l = []) := eqD_lnil
def shD : DD → SV
  | .int n => .dat (.str ((toString n : String) : Str))
  | _ => .dat .non
theorem shD_all (l : List Int) : (SV.own ((l.map DD.int).map shD)).data = .lst ((l.map fun n => ((toString n : String) : Str)).map .str) := by
  rw [data_own, List.map_map, List.map_map, List.map_map]
  rfl
theorem tos_len {n : Int} (h : Sm 40 n) : ((toString n : String) : Str).length ≤ 14 := by
  rw [← len_cps, tos_cps]
  have e : n.natAbs < 10 ^ 13 := Nat.lt_of_lt_of_le h (by decide)
  have := toDigits_len_pow (b := 10) (by decide) (by decide) e
  cases n with
  | ofNat m =>
    rw [Int.ofNat_eq_natCast, icps_ofNat, List.length_map]
    exact Nat.le_trans this (by decide)
  | negSucc m =>
    rw [icps_neg, List.length_cons, List.length_map]
    exact Nat.succ_le_succ this
theorem sum_le {f : Int → Nat} {b : Nat} : ∀ {l : List Int}, (∀ n ∈ l, f n ≤ b) → (l.map f).sum ≤ l.length * b
  | [], _ => by simp
  | a :: r, h => by
    have := sum_le (fun n m => h n (List.mem_cons_of_mem _ m))
    have := h a (by simp)
    simp only [List.map_cons, List.sum_cons, List.length_cons, Nat.add_mul]
    omega
theorem sh_size {l : List Int} (hl : l.length ≤ 3100) (hs : ∀ n ∈ l, Sm 40 n) : (List.map (fun x => x.length) (l.map fun n => ((toString n : String) : Str))).sum + (l.map fun n => ((toString n : String) : Str)).length * ((" " : String) : Str).length ≤ 16777216 := by
  have e : ((" " : String) : Str).length = 1 := by decide
  rw [List.map_map, List.length_map, e]
  have := sum_le (f := (fun x : Str => x.length) ∘ fun n : Int => ((toString n : String) : Str)) (b := 14) fun n m => tos_len (hs n m)
  omega
/-! read_polynomial -/
def numOf : DD → SV
  | .str z => .dat (numD z)
  | _ => .dat .non
theorem nums_data (ps : List Str) : (SV.own ((ps.map DD.str).map numOf)).data = .lst (ps.map numD) := by
  rw [data_own, List.map_map, List.map_map]
  rfl
theorem nums_can {ps : List Str} (h : ps.all can = true) : ps.map numD = (ps.map val).map .int := by
  rw [List.map_map]
  exact List.map_congr_left fun p m => by
    have := List.all_eq_true.mp h p m
    rw [numD, if_pos this]
    rfl
theorem inD_non_ints (l : List Int) : inD .non (l.map .int) = false := by
  unfold inD
  refine List.any_eq_false.mpr fun d m => ?_
  obtain ⟨n, _, rfl⟩ := List.mem_map.mp m
  simp [eqD, DD.py, PyData.eqv]
theorem eqD_zero (l : List Int) : eqD (.lst (l.map .int)) (.lst [.int 0]) = decide (l = [0]) := eqD_lint (m := [0])
theorem split_len2 {w : Str} {n : Nat} (h : Tx n w) : (Txt.split w blank).length ≤ n + 2 := Nat.le_trans (split_le w blank) (Nat.add_le_add_right h.1 2)
theorem dval_lt : ∀ {ds : List Nat}, AllDigits ds → digitsVal ds < 10 ^ ds.length := by
  intro ds
  induction ds using snocI with
  | h0 => intro _; decide
  | h1 l d ih =>
    intro h
    have := ih fun x m => h x (List.mem_append_left _ m)
    have := h d (by simp)
    rw [digitsVal_snoc, List.length_append, List.length_singleton, Nat.pow_succ]
    omega
theorem app_cps (a b : Str) : (a ++ b).cps.toList = a.cps.toList ++ b.cps.toList := by
  show (a.cps ++ b.cps).toList = _
  exact Array.toList_append
theorem join_mem {y p : Str} {c : Nat} : ∀ {ps : List Str}, p ∈ ps → c ∈ p.cps.toList → c ∈ (Str.join y ps).cps.toList
  | [q], m, h => by
    obtain rfl := List.mem_singleton.mp m
    exact h
  | q :: r :: t, m, h => by
    show c ∈ (q ++ y ++ Str.join y (r :: t)).cps.toList
    rw [app_cps, app_cps]
    rcases List.mem_cons.mp m with rfl | m
    · exact List.mem_append_left _ (List.mem_append_left _ h)
    · exact List.mem_append_right _ (join_mem m h)
theorem split_tx {w p : Str} {n : Nat} (h : Tx n w) (m : p ∈ Txt.split w blank) : Tx n p := by
  refine ⟨Nat.le_trans (PyProof.Rows.part_short m) h.1, fun c hc => h.2 c ?_⟩
  have := join_mem (y := blank) m hc
  rwa [PySem.StrLaws.join_split] at this
theorem val_smB {p : Str} (h : okB p.cps.toList = true) : Sm 40 (val p) := by
  obtain ⟨a, ne, l⟩ := okB_all h
  have b := dval_lt a
  have b2 : (10 : Nat) ^ (bare p.cps.toList).length ≤ 10 ^ 9 := Nat.pow_le_pow_right (by decide) l
  have e : (val p).natAbs = digitsVal (bare p.cps.toList) := by
    unfold val valB bare
    split
    · rw [Int.natAbs_neg, Int.natAbs_natCast]
    · rw [Int.natAbs_natCast]
  unfold Sm
  rw [e]
  exact Nat.lt_of_lt_of_le b (Nat.le_trans b2 (by decide))
theorem read_some {w : Str} {l : List Int} (h : readT w = some l) : (Txt.split w blank).all can = true ∧ ((w = (("0" : String) : Str) ∧ l = []) ∨ (w ≠ (("0" : String) : Str) ∧ (Txt.split w blank).getLast? ≠ some (("0" : String) : Str) ∧ l = (Txt.split w blank).map val)) := by
  unfold readT at h
  split at h
  · next hc =>
    refine ⟨hc, ?_⟩
    split at h
    · next h0 => exact .inl ⟨h0, (Option.some.inj h).symm⟩
    · next h0 =>
      split at h
      · cases h
      · next h1 => exact .inr ⟨h0, h1, (Option.some.inj h).symm⟩
  · cases h
theorem ixT_last {l : List Int} {n : Int} {R : DD → Prop} (h : l.getLast? = some n) (r : R (.int n)) : ixT (.dat (dI l)) (-1) R := by
  refine ⟨_, ?_, r⟩
  have ne : 0 < l.length := by
    cases l with
    | nil => cases h
    | cons a r => simp
  rw [List.getLast?_eq_getElem?] at h
  unfold atI
  rw [List.length_map, ixN_end ne, Option.bind_some, List.getElem?_map, h]
  rfl
theorem val_sm {p : Str} (h : can p = true) : Sm 40 (val p) := val_smB (can_ok h)
theorem ixT_lastD {l : List DD} {d : DD} {R : DD → Prop} (h : l.getLast? = some d) (r : R d) : ixT (.dat (.lst l)) (-1) R := by
  refine ⟨_, ?_, r⟩
  have ne : 0 < l.length := by
    cases l with
    | nil => cases h
    | cons a r => simp
  rw [List.getLast?_eq_getElem?] at h
  unfold atI
  rw [ixN_end ne, Option.bind_some, h]
theorem okD_lstE {l : List DD} (h : ∀ d ∈ l, okD d = true ∧ d.py.depth ≤ 10) : okD (.lst l) = true := by
  have key : ∀ {l : List DD}, (∀ d ∈ l, okD d = true ∧ d.py.depth ≤ 10) → DD.pures l = true ∧ PyData.canLayAll0 (DD.pys l) = true ∧ PyData.depthAll (DD.pys l) ≤ 10 := by
    intro l
    induction l with
    | nil => intro _; simp [DD.pures, DD.pys, PyData.canLayAll0, PyData.depthAll]
    | cons d l ih =>
      intro h
      obtain ⟨a1, a2, a3⟩ := ih fun e m => h e (List.mem_cons_of_mem _ m)
      obtain ⟨b, b3⟩ := h d (List.mem_cons_self ..)
      have b := okD_of b
      have b2 := b.2
      simp only [SeqAt.shaped, Bool.and_eq_true, decide_eq_true_eq] at b2
      simp [DD.pures, DD.pys, PyData.canLayAll0, PyData.depthAll, a1, a2, b.1, b2.1]
      omega
  obtain ⟨a1, a2, a3⟩ := key h
  simp [okD, DD.pure, DD.py, SeqAt.shaped, PyData.canLay0, PyData.depth, a1, a2]
  omega
theorem okD_non : okD .non = true := by decide +kernel
theorem okD_nums (ps : List Str) : okD (.lst (ps.map numD)) = true := okD_lstE fun d m => by
  obtain ⟨p, _, rfl⟩ := List.mem_map.mp m
  unfold numD
  split
  · exact ⟨okD_int, Nat.zero_le _⟩
  · exact ⟨okD_non, Nat.zero_le _⟩
theorem inD_non_no {ps : List Str} (h : ¬ ps.all can = true) : inD .non (ps.map numD) = true := by
  have h : ps.all can = false := by simpa using h
  obtain ⟨p, m, e⟩ := List.all_eq_false.mp h
  unfold inD
  refine List.any_eq_true.mpr ⟨numD p, List.mem_map.mpr ⟨p, m, rfl⟩, ?_⟩
  rw [numD, if_neg e]
  decide +kernel
theorem read_none {w : Str} (hc : (Txt.split w blank).all can = true) (h : readT w = none) : w ≠ (("0" : String) : Str) ∧ (Txt.split w blank).getLast? = some (("0" : String) : Str) := by
  unfold readT at h
  rw [if_pos hc] at h
  split at h
  · cases h
  · next h0 =>
    split at h
    · next h1 => exact ⟨h0, h1⟩
    · cases h
/-! comprehensions that leave items out -/
theorem lc_filter {fg : FG} {ft : FT} {fe : FE} {vs : List Nat} {ds : List DD} {Q : SV → Rho → Prop} {ρ1 : Rho} (b : DD → Bool) (hl : ds.length ≤ sizeLine) (hp : plainB ρ1 vs = true)
    (hs : ∀ d ∈ ds, ∀ (R0 : Rho → Prop) (R1 : SV → Rho → Prop), (b d = true → R1 (.dat d) ρ1) → (b d = false → R0 ρ1) → fg d (wipeR ρ1 vs) fun ρ2 => ft ρ2 fun c ρ3 => if c = true then fe ρ3 fun r ρ4 => R1 r (unwipe ρ4 ρ1 vs) else R0 (unwipe ρ3 ρ1 vs))
    (hd : Q (.own ((ds.filter b).map .dat)) ρ1) : lcB fg ft fe vs ds Q ρ1 := by
  refine lc_inv (fun i acc ρ => ρ = ρ1 ∧ acc = ((ds.take i).filter b).map .dat) ⟨rfl, rfl⟩ ?_ ?_
  · rintro i d acc ρ hi ⟨rfl, rfl⟩
    refine ⟨hp, ?_⟩
    have hlt := (List.getElem?_eq_some_iff.mp hi).1
    have ht : ds.take (i + 1) = ds.take i ++ [d] := by rw [List.take_add_one, hi]; rfl
    refine hs d (List.mem_of_getElem? hi) (fun ρ' => ρ' = ρ ∧ ((ds.take i).filter b).map SV.dat = ((ds.take (i + 1)).filter b).map SV.dat) (fun r ρ' => (((ds.take i).filter b).map SV.dat).length < sizeLine ∧ ρ' = ρ ∧ ((ds.take i).filter b).map SV.dat ++ [r] = ((ds.take (i + 1)).filter b).map SV.dat) (fun h => ⟨?_, rfl, ?_⟩) (fun h => ⟨rfl, ?_⟩)
    · rw [List.length_map]
      refine Nat.lt_of_le_of_lt (List.length_filter_le _ _) ?_
      rw [List.length_take]
      exact Nat.lt_of_le_of_lt (Nat.min_le_left _ _) (Nat.lt_of_lt_of_le hlt hl)
    · rw [ht, List.filter_append, List.map_append]
      simp [h]
    · rw [ht, List.filter_append, List.map_append]
      simp [h]
  · rintro acc ρ ⟨rfl, rfl⟩
    rw [List.take_length]
    exact hd
theorem dats_data (l : List DD) : (SV.own (l.map .dat)).data = .lst l := by
  rw [data_own, List.map_map]
  congr 1
  exact (List.map_congr_left fun d _ => rfl).trans (List.map_id _)
theorem eqD_none (l : List DD) : eqD (.lst l) (.lst []) = decide (l = []) := by
  cases l with
  | nil => simp [eqD, DD.py, DD.pys, PyData.eqv, PyData.eqvAll]
  | cons a r => simp [eqD, DD.py, DD.pys, PyData.eqv, PyData.eqvAll]
theorem okD_sgn {w : Str} (h : ∀ c ∈ w.cps.toList, c < 128) : okD (.str w) = true := by
  have : PyData.strOk w = true := by
    unfold PyData.strOk
    rw [← Array.all_toList, List.all_eq_true]
    exact fun c m => decide_eq_true (Nat.lt_trans (h c m) (by decide))
  simp [okD, DD.pure, DD.py, SeqAt.shaped, PyData.canLay0, PyData.depth, this]
theorem okD_txs {l : List DD} (h : ∀ d ∈ l, ∃ w : Str, d = .str w ∧ ∀ c ∈ w.cps.toList, c < 128) : okD (.lst l) = true := okD_lstE fun d m => by
  obtain ⟨w, rfl, hw⟩ := h d m
  exact ⟨okD_sgn hw, Nat.zero_le _⟩
/-- not a digit -/
def noDg : DD → Bool
  | .str z => match z.cps.toList with | c :: _ => !dg c | [] => false
  | _ => false
theorem noDg_none (p : Str) : (strD p).filter noDg = [] ↔ p.cps.toList.all dg = true := by
  rw [List.filter_eq_nil_iff, List.all_eq_true]
  constructor
  · intro h c m
    have := h (.str ⟨#[c]⟩) (List.mem_map.mpr ⟨c, m, rfl⟩)
    simpa [noDg] using this
  · intro h d m
    obtain ⟨c, mc, rfl⟩ := List.mem_map.mp m
    simp [noDg, h c mc]
theorem bareS_mem {p : Str} {c : Nat} (h : c ∈ (bareS p).cps.toList) : c ∈ p.cps.toList := by
  rw [bareS_cps] at h
  unfold bare at h
  split at h
  · exact List.mem_of_mem_tail h
  · exact h
theorem can_is {p : Str} (h : okB p.cps.toList = true) : decide (((toString (valB p.cps.toList) : String) : Str) = p) = can p := by
  rw [can, canon_iff h]
  refine decide_eq_decide.mpr ⟨fun e => ?_, fun e => ?_⟩
  · have := congrArg (fun z : Str => z.cps.toList) e
    rw [← tos_cps]
    exact this
  · exact str_ext ((tos_cps _).trans e)
theorem can_no {p : Str} (h : okB p.cps.toList = false) : can p = false := by rw [can, canon, h, Bool.false_and]
def noCan : DD → Bool
  | .str z => !can z
  | _ => false
theorem noCan_none (ps : List Str) : (ps.map DD.str).filter noCan = [] ↔ ps.all can = true := by
  rw [List.filter_eq_nil_iff, List.all_eq_true]
  constructor
  · intro h p m
    have := h (.str p) (List.mem_map.mpr ⟨p, m, rfl⟩)
    simpa [noCan] using this
  · intro h d m
    obtain ⟨p, mp, rfl⟩ := List.mem_map.mp m
    simp [noCan, h p mp]
def intD : DD → SV
  | .str z => .dat (.int (val z))
  | _ => .dat .non
theorem ints_data (ps : List Str) : (SV.own [SV.own ((ps.map DD.str).map intD)]).data = .lst [dI (ps.map val)] := by
  rw [data_own, List.map_singleton, data_own, List.map_map, List.map_map, dI, List.map_map]
  rfl
theorem read_good {w : Str} {l : List Int} (tx : Tx 3000 w) (h : readT w = some l) : l.length ≤ 3100 ∧ (∀ n ∈ l, Sm 40 n) ∧ showT l = w := by
  obtain ⟨hc, hl⟩ := read_some h
  rcases hl with ⟨h0, rfl⟩ | ⟨h0, h1, rfl⟩
  · exact ⟨by simp, by simp, by rw [h0]; rfl⟩
  · refine ⟨by rw [List.length_map]; exact Nat.le_trans (split_len2 tx) (by decide), fun n m => ?_, show_back hc⟩
    obtain ⟨p, mp, rfl⟩ := List.mem_map.mp m
    exact val_sm (List.all_eq_true.mp hc p mp)
/-! the menu of odd texts -/
def txt (d : DD) : Prop := ∃ x, d = .str x ∧ Tx 20000 x
def Menu (n : Nat) (s : SV) (w : Str) (ρ : Rho) : Prop := ∃ (l : List DD) (x3 : Option SV), l.length = n ∧ (∀ d ∈ l, txt d) ∧ ρ = [some s, some (.dat (.str w)), some (.dat (.lst l)), x3]
def txB (x : Str) : Bool := decide (x.length ≤ 20000) && x.cps.toList.all fun c => decide (c < 128)
theorem txts {l : List Str} (h : l.all txB = true) : ∀ d ∈ l.map DD.str, txt d := fun d m => by
  obtain ⟨x, mx, rfl⟩ := List.mem_map.mp m
  have := List.all_eq_true.mp h x mx
  simp only [txB, Bool.and_eq_true, decide_eq_true_eq, List.all_eq_true] at this
  exact ⟨x, rfl, this⟩
theorem txt_app {a b : List DD} (ha : ∀ d ∈ a, txt d) (hb : ∀ d ∈ b, txt d) : ∀ d ∈ a ++ b, txt d := fun d m => (List.mem_append.mp m).elim (ha d) (hb d)
theorem Tx.app {a b : Nat} {x y : Str} (hx : Tx a x) (hy : Tx b y) : Tx (a + b) (x ++ y) := by
  have h1 := hx.1
  have h2 := hy.1
  rw [← len_cps] at h1 h2
  refine ⟨by rw [← len_cps, app_cps, List.length_append]; omega, fun c m => ?_⟩
  rw [app_cps] at m
  exact (List.mem_append.mp m).elim (hx.2 c) (hy.2 c)
theorem join_tx {y : Str} {b k : Nat} (hy : Tx k y) : ∀ {ps : List Str}, (∀ p ∈ ps, Tx b p) → Tx (ps.length * (b + k)) (Str.join y ps)
  | [], _ => ⟨Nat.zero_le _, fun c m => nomatch m⟩
  | [p], h => (h p List.mem_cons_self).mono (by simp)
  | p :: q :: r, h => by
    have ih := join_tx hy (ps := q :: r) fun z m => h z (List.mem_cons_of_mem _ m)
    have e := ((h p List.mem_cons_self).app hy).app ih
    refine Tx.mono e ?_
    rw [List.length_cons (a := p), Nat.add_mul]
    omega
theorem rep_txt {x : Str} {k : Int} : repT [DD.str x] k = (List.replicate k.toNat x).map DD.str := by simp [repT]
theorem joinr_tx {x y : Str} {b k : Nat} (hx : Tx b x) (hy : Tx k y) (n : Nat) : Tx (n * (b + k)) (Txt.join y (List.replicate n x)) := by
  have := join_tx hy (ps := List.replicate n x) fun p m => by rw [List.eq_of_mem_replicate m]; exact hx
  rw [List.length_replicate] at this
  rw [show Txt.join y (List.replicate n x) = Str.join y (List.replicate n x) from PySem.StrLaws.glued_eq_join _ _]
  exact this
theorem repl_size {x y : Str} {b k n : Nat} (hx : x.length ≤ b) (hy : y.length ≤ k) : (List.map (fun x => x.length) (List.replicate n x)).sum + (List.replicate n x).length * y.length ≤ n * b + n * k := by
  rw [List.map_replicate, List.sum_replicate_nat, List.length_replicate]
  exact Nat.add_le_add (Nat.mul_le_mul_left _ hx) (Nat.mul_le_mul_left _ hy)
theorem split1_tx {w p : Str} {c n : Nat} (h : Tx n w) (m : p ∈ Txt.split w ⟨#[c]⟩) : Tx n p := by
  refine ⟨Nat.le_trans (PyProof.Rows.part_short m) h.1, fun d hd => h.2 d ?_⟩
  have := join_mem (y := ⟨#[c]⟩) m hd
  rwa [PySem.StrLaws.join_split] at this
theorem repla_tx {w z : Str} {c n k : Nat} (hw : Tx n w) (hz : Tx k z) : Tx ((n + 2) * (n + k)) (Txt.replace w ⟨#[c]⟩ z) := by
  rw [PySem.StrLaws.replace_one]
  refine (join_tx hz fun p m => split1_tx hw m).mono ?_
  exact Nat.mul_le_mul_right _ (Nat.le_trans (split_le _ _) (Nat.add_le_add_right hw.1 2))
theorem revS_tx {w : Str} {n : Nat} (h : Tx n w) : Tx n (revS w) := by
  refine ⟨?_, fun c m => h.2 c ?_⟩
  · have := h.1
    rw [← len_cps] at this ⊢
    simpa [revS] using this
  · simpa [revS] using m
theorem sm_lt {m : Nat} (h : m < 2 ^ 20) : Sm 8000 (m : Int) := Sm.mono (k := 20) (by unfold Sm; simpa using h) (by decide)
/-! the law's turns -/
theorem okD_resD (w : Str) : okD (resD w) = true := by
  unfold resD
  split
  · exact okD_nil
  · exact okD_lstE fun d m => by
      rw [List.mem_singleton.mp m]
      refine ⟨okD_dI _, ?_⟩
      rw [dI]
      simp [DD.py, PyData.depth, okD_ints]
theorem eqD_resD (w : Str) : eqD (resD w) (resD w) = true := by
  unfold resD
  split
  · simp [eqD, DD.py, DD.pys, PyData.eqv, PyData.eqvAll]
  · simp [eqD, dI, DD.py, DD.pys, PyData.eqv, PyData.eqvAll, eqD_ints]
theorem dig_lt (n : Nat) : ∀ c ∈ (Nat.toDigits 10 n).map Char.toNat, c < 128 := by
  have key : ∀ n, n < 10 → (Nat.digitChar n).toNat < 128 := by decide
  induction n using Nat.strongRecOn with
  | _ n ih =>
    intro c m
    by_cases h : n < 10
    · rw [Nat.toDigits_of_lt_base h] at m
      rw [List.mem_singleton.mp m]
      exact key n h
    · have t := Nat.toDigits_append_toDigits (b := 10) (n := n / 10) (d := n % 10) (by decide) (by omega) (by omega)
      rw [Nat.div_add_mod] at t
      rw [← t, List.map_append, Nat.toDigits_of_lt_base (show n % 10 < 10 by omega)] at m
      rcases List.mem_append.mp m with m | m
      · exact ih (n / 10) (by omega) c m
      · rw [List.mem_singleton.mp m]
        exact key _ (by omega)
theorem tos_tx {n : Int} (h : Sm 20 n) : Tx 8 ((toString n : String) : Str) := by
  have e : n.natAbs < 10 ^ 7 := Nat.lt_of_lt_of_le h (by decide)
  have len := toDigits_len_pow (b := 10) (by decide) (by decide) e
  have dig : ∀ c ∈ (Nat.toDigits 10 n.natAbs).map Char.toNat, c < 128 := dig_lt _
  refine ⟨?_, ?_⟩
  · rw [← len_cps, tos_cps]
    cases n with
    | ofNat m =>
      rw [Int.ofNat_eq_natCast, icps_ofNat, List.length_map]
      exact Nat.le_trans len (by decide)
    | negSucc m =>
      rw [icps_neg, List.length_cons, List.length_map]
      exact Nat.succ_le_succ len
  · rw [tos_cps]
    cases n with
    | ofNat m =>
      rw [Int.ofNat_eq_natCast, icps_ofNat]
      exact dig
    | negSucc m =>
      rw [icps_neg]
      intro c mc
      rcases List.mem_cons.mp mc with rfl | mc
      · decide
      · exact dig c mc
theorem join_tos {l : List Int} (hl : l.length ≤ 8) (h : ∀ n ∈ l, Sm 20 n) : Tx 100 (Txt.join (((" " : String)) : Str) (l.map fun n => ((toString n : String) : Str))) := by
  have tb : Tx 1 ((" " : String) : Str) := by decide +kernel
  have := join_tx tb (b := 8) (ps := l.map fun n => ((toString n : String) : Str)) fun p m => by
    obtain ⟨n, mn, rfl⟩ := List.mem_map.mp m
    exact tos_tx (h n mn)
  rw [show Txt.join _ _ = Str.join _ _ from PySem.StrLaws.glued_eq_join _ _]
  refine this.mono ?_
  rw [List.length_map]
  omega
theorem cutS_tx {w : Str} {n : Nat} {lo hi : Option Int} (h : Tx n w) : Tx n (cutS w lo hi) := by
  have hw := h.1
  rw [← len_cps] at hw
  unfold cutS
  refine ⟨?_, fun c m => ?_⟩
  · rw [← len_cps, List.toList_toArray]
    simp only [List.length_take, List.length_drop]
    omega
  · rw [List.toList_toArray] at m
    exact h.2 c (List.mem_of_mem_drop (List.mem_of_mem_take m))
theorem sum_leS {b : Nat} : ∀ {l : List Str}, (∀ p ∈ l, Tx b p) → (l.map fun x => x.length).sum ≤ l.length * b
  | [], _ => by simp
  | a :: r, h => by
    have := sum_leS (fun n m => h n (List.mem_cons_of_mem _ m))
    have := (h a (by simp)).1
    simp only [List.map_cons, List.sum_cons, List.length_cons, Nat.add_mul]
    omega
theorem join_swap {l : List Str} {c : Nat} (hc : c < 128) (hl : l.length ≤ 102) (h : ∀ p ∈ l, Tx 100 p) : (l.map fun x => x.length).sum + l.length * (⟨#[c]⟩ : Str).length ≤ 16777216 ∧ Tx 20000 (Txt.join ⟨#[c]⟩ l) := by
  have tc : Tx 1 (⟨#[c]⟩ : Str) := ⟨Nat.le_refl 1, fun d m => by rw [List.mem_singleton.mp m]; exact hc⟩
  have a := sum_leS h
  have e : (⟨#[c]⟩ : Str).length = 1 := rfl
  refine ⟨by rw [e]; omega, ?_⟩
  rw [show Txt.join _ _ = Str.join _ _ from PySem.StrLaws.glued_eq_join _ _]
  exact (join_tx tc h).mono (by omega)
end My

namespace My
open PySem PySem.Spec PyProof.Rows L2 DL
section
variable {P : Program} {w : World} {K : PySem.W.Frag} {mg : Str → Option Value} {base : Heap} {f C_TankError C_Unreadable C_InvalidPolynomial : Addr} {fd : FuncData}
theorem g__law_purse (F : FunD K "_law_purse" "_law_purse" (defArgs s__law_purse) (defBody s__law_purse) (defScope s__law_purse) [] [] f fd)  (m_len : mg "len" = none) (m_int : mg "int" = none) (m_max : mg "max" = none) (m_abs : mg "abs" = none) :
    FnG P w K mg base CX0 (1) f fd (["script", "place"] : List Str) (spD K cSack) := by
  have S : FnScope (["script", "place", "cell"] : List Str) (["script", "place"] : List Str) (defScope s__law_purse) := ⟨rfl, rfl, rfl, by decide +kernel, rfl, by decide +kernel, by decide +kernel⟩
  have nd : (["script", "place", "cell"] : List Str).Nodup := by decide +kernel
  refine okF (k := 0) [] F S (fun cdv A outer s H E hr => (ss_cons (s_set (i := 2) nd (ve (ev (e_if (q_lt (n_o 1 (pv 1) rfl) (vo (p_len m_len (os_cons (n_o 0 (pv 0) rfl) os_nil)))) (ve (v_ix (n_o 0 (pv 0) rfl) (n_o 1 (pv 1) rfl))) (ve c_int)))))
    (ss_one (s_ret (e_lst (g_cons (ve (p_max rfl m_max (os_cons (vo c_int) (os_cons (vo (p_sub (vo (p_abs m_abs (os_cons (n_o 2 (pv 2) rfl) os_nil))) (vo (p_pow (vo c_int) (vo c_int))))) os_nil)))) (g_cons (ve (p_mod (vo (p_int m_int (os_cons (vo (p_add (vo (p_add (vo (p_mul (n_o 2 (pv 2) rfl) (vo c_int))) (vo (p_mul (n_o 1 (pv 1) rfl) (vo c_int))))) (vo c_int))) os_nil))) (vo (p_add (vo (p_pow (vo c_int) (vo c_int))) (vo c_int))))) (g_cons (ve c_int) g_nil)))))))) ?_ rfl ?_
  · rintro as Q ⟨ns, r, b, rfl, _⟩; rfl
  · rintro as Q ⟨ns, r, b, rfl, hs, hr, q⟩
    have hr' : Sm 40 (r : Int) := by unfold Sm; simpa using hr
    have key : ∀ a : Int, Sm 1048576 a → IntMulOk a 30011 ∧ IntMulOk (r : Int) 7368787 ∧ Q (.own [.dat (.int (if 1000000000000000000 < if a < 0 then -a else a then (if a < 0 then -a else a) - 1000000000000000000 else 0)), .dat (.int ((a * 30011 + r * 7368787 + 104729).fmod 1000000000000000000000007)), .dat (.int 0)]) [.dat (scr b ns), .dat (.int r)] := fun a ha => by
      refine ⟨ha.ok (smc (k := 20)), hr'.ok (smc (k := 30)), q _ ⟨_, _, rfl, ?_, fmod_sm _ (by decide) smc⟩⟩
      refine (ha.le (n := if 1000000000000000000 < if a < 0 then -a else a then (if a < 0 then -a else a) - 1000000000000000000 else 0) ?_).mono (by decide)
      split <;> split <;> omega
    cases b <;> simp [atI_mapI] <;> rcases Nat.lt_or_ge r ns.length with l | l
    case false.inl | true.inl =>
      obtain ⟨k1, k2, k3⟩ := key ns[r] (hs _ (List.getElem_mem l))
      exact .inr ⟨l, _, ⟨_, atI_nat l, rfl⟩, _, rfl, _, rfl, k1, k2, by simpa using k3⟩
    case false.inr | true.inr =>
      obtain ⟨k1, k2, k3⟩ := key 0 smc
      exact .inl ⟨l, k1, k2, by simpa using k3⟩
theorem b__law_purse {k : Nat} {C : Ctr} (G : FnG P w K mg base CX0 k f fd (["script", "place"] : List Str) (spD K C)) (F : FunD K "_law_purse" "_law_purse" (defArgs s__law_purse) (defBody s__law_purse) (defScope s__law_purse) [] [] f fd) (hm : mg "_law_purse" = some (.ref f)) : Hs P w K mg base "_law_purse" (["script", "place"] : List Str) k C := by
  refine hsF G hm F ?_
  intro kV doc pm an cdv ct us hl
  match us, hl with
  | [u0, u1], _ => rfl

theorem g__law_coin (F : FunD K "_law_coin" "_law_coin" (defArgs s__law_coin) (defBody s__law_coin) (defScope s__law_coin) [] [] f fd)  (m_int : mg "int" = none) :
    FnG P w K mg base CX0 (1) f fd (["purse", "many"] : List Str) (spD K cCoin) := by
  have S : FnScope (["purse", "many", "drawn", "stirred"] : List Str) (["purse", "many"] : List Str) (defScope s__law_coin) := ⟨rfl, rfl, rfl, by decide +kernel, rfl, by decide +kernel, by decide +kernel⟩
  have nd : (["purse", "many", "drawn", "stirred"] : List Str).Nodup := by decide +kernel
  refine okF (k := 0) [0] F S (fun cdv A outer s H E hr => (ss_cons (s_if (q_gt (vo (v_ix (n_o 0 (pv 0) rfl) (vo c_int))) (vo c_int)) (ss_cons (s_set (i := 2) nd (ve (p_mod (vo (p_int m_int (os_cons (vo (v_ix (n_o 0 (pv 0) rfl) (vo c_int))) os_nil))) (n_o 1 (pv 1) rfl))))
    (ss_cons (s_setit 0 (pv 0) rfl (p_div (vo (v_ix (n_o 0 (pv 0) rfl) (vo c_int))) (n_o 1 (pv 1) rfl)) (vo c_int))
    (ss_one (s_ret (ve (n_v 2 (pv 2) rfl)))))) ss_nil)
    (ss_cons (s_setit 0 (pv 0) rfl (p_add (vo (v_ix (n_o 0 (pv 0) rfl) (vo c_int))) (vo c_int)) (vo c_int))
    (ss_cons (s_set (i := 3) nd (ve (p_mod (vo (p_pow (vo (p_int m_int (os_cons (vo (p_add (vo (v_ix (n_o 0 (pv 0) rfl) (vo c_int))) (vo (p_mul (vo c_int) (vo (v_ix (n_o 0 (pv 0) rfl) (vo c_int))))))) os_nil))) (vo c_int))) (vo (p_add (vo (p_pow (vo c_int) (vo c_int))) (vo c_int))))))
    (ss_cons (s_set (i := 3) nd (ve (p_mod (vo (p_pow (vo (p_int m_int (os_cons (vo (p_add (n_o 3 (pv 3) rfl) (vo (p_mul (vo c_int) (vo (v_ix (n_o 0 (pv 0) rfl) (vo c_int))))))) os_nil))) (vo c_int))) (vo (p_add (vo (p_pow (vo c_int) (vo c_int))) (vo c_int))))))
    (ss_one (s_ret (ve (p_mod (vo (p_int m_int (os_cons (vo (p_div (n_o 3 (pv 3) rfl) (vo c_int))) os_nil))) (n_o 1 (pv 1) rfl)))))))))) ?_ rfl ?_
  · rintro as Q ⟨s, c, m, rfl, _⟩; rfl
  · rintro as Q ⟨s, c, m, rfl, ⟨a, b, rfl, ha, hb⟩, hc, hm, sm, q⟩
    have hc' : Sm 61 ((c : Int) + 1) := by unfold Sm; simp; omega
    simp
    rcases Int.lt_or_le 0 a with z | z
    · have f := fmod_in a hm
      exact .inr ⟨z, by omega, sm.pylong a, q _ _ c f.1 f.2 ⟨_, _, rfl, fdiv_sm ha (by omega), hb⟩ (by omega)⟩
    · have c1 : Sm 95 (b + 2038074743 * ((c : Int) + 1)) := (hb.add ((smc (k := 31)).mul hc')).mono (by decide)
      have c2 : Sm 95 (((b + 2038074743 * ((c : Int) + 1)) ^ 3).fmod 10000000000000000000000013 + 982451653 * ((c : Int) + 1)) := ((fmod_sm (k := 90) _ (by decide) smc).add ((smc (k := 31)).mul hc')).mono (by decide)
      refine .inl ⟨z, (smc (k := 31)).ok hc', c1.pw (n := 3), (smc (k := 31)).ok hc', c2.pw (n := 2), (smc (k := 11)).pylong _, by omega, ?_⟩
      have f := fmod_in ((((((b + 2038074743 * ((c : Int) + 1)) ^ 3).fmod 10000000000000000000000013 + 982451653 * ((c : Int) + 1)) ^ 2).fmod 1000000000000000000000007).fdiv 1024) hm
      exact q _ _ (c + 1) f.1 f.2 ⟨a, b, by simp, ha, hb⟩ (by omega)
theorem b__law_coin {k : Nat} {C : Ctr} (G : FnG P w K mg base CX0 k f fd (["purse", "many"] : List Str) (spD K C)) (F : FunD K "_law_coin" "_law_coin" (defArgs s__law_coin) (defBody s__law_coin) (defScope s__law_coin) [] [] f fd) (hm : mg "_law_coin" = some (.ref f)) : Hs P w K mg base "_law_coin" (["purse", "many"] : List Str) k C := by
  refine hsF G hm F ?_
  intro kV doc pm an cdv ct us hl
  match us, hl with
  | [u0, u1], _ => rfl

theorem g_TankError_init (F : FunD K "__init__" "TankError.__init__" (defArgs s_TankError_init) (defBody s_TankError_init) (defScope s_TankError_init) [] [] f fd) (m_ValueError : mg "ValueError" = none) (vV : PySem.W.findCls K (.type "ValueError") (.type "type") "__init__" = some (.val (.builtin "ValueError.__init__"))) :
    FnOk P w K mg base CX0 1 f fd (["self", "value"] : List Str) (spTI K) := by
  have S : FnScope (["self", "value"] : List Str) (["self", "value"] : List Str) (defScope s_TankError_init) := ⟨rfl, rfl, rfl, by decide +kernel, rfl, by decide +kernel, by decide +kernel⟩
  exact tank_fn (m := "not possible with these tanks") F S rfl rfl fun cdv A outer s H E => pss_cons (ps_expr (pe_veinit rfl m_ValueError vV (pa_cons (pv 0) (pa_cons pe_str pa_nil)))) (pss_one (ps_ost (pv 0) (pv 1)))

theorem g_number_in (F : FunD K "number_in" "number_in" (defArgs s_number_in) (defBody s_number_in) (defScope s_number_in) [] [] f fd)  (m_all : mg "all" = none) (m_len : mg "len" = none) (m_int : mg "int" = none) (gs_DIGITS : ∃ u, mg "DIGITS" = some u ∧ RelV (.str "0123456789") u) (gs_MOST_DIGITS : ∃ u, mg "MOST_DIGITS" = some u ∧ RelV (.int 9) u) :
    FnG P w K mg base CX0 (1) f fd (["text"] : List Str) (spD K cNumIn) := by
  have S : FnScope (["text", "digits", "sign"] : List Str) (["text"] : List Str) (defScope s_number_in) := ⟨rfl, rfl, rfl, by decide +kernel, rfl, by decide +kernel, by decide +kernel⟩
  have nd : (["text", "digits", "sign"] : List Str).Nodup := by decide +kernel
  refine okF (k := 0) [] F S (fun cdv A outer s H E hr => (ss_cons (s_set (i := 1) nd (ve (ev (e_if (q_eqS (vo (v_slS (n_o 0 (pv 0) rfl) s_none (s_some (vo c_int)))) (vo c_str)) (ve (v_slS (n_o 0 (pv 0) rfl) (s_some (vo c_int)) s_none)) (ve (n_v 0 (pv 0) rfl))))))
    (ss_cons (s_if (t_w (w_or (t_not (q_chn op_le op_le sc_B0 sc_B0 (vo c_int) (vo (p_len m_len (os_cons (n_o 1 (pv 1) rfl) os_nil))) (vo (c_gv (d := .int 9) (.int _) gs_MOST_DIGITS)))) (w_or1 (t_not (t_val (p_all rfl m_all (os_cons (vo (ev (e_lc (own := [("sign", 2)]) rfl nd (i_str (n_v 1 (pv 1) rfl)) rfl (fun _ _ _ _ _ => (t_name (i := 2) nd)) (fun _ _ _ _ _ => ifs_nil) (fun _ _ _ _ _ => (ve (p_inS (n_o 2 (pv 2) rfl) (vo (c_gv (d := .str "0123456789") (.str _) gs_DIGITS)))))))) os_nil))))))) (ss_one (s_ret (ve c_non))) ss_nil)
    (ss_one (s_ret (e_if (t_w (w_or (q_neS (vo (v_ix (n_o 1 (pv 1) rfl) (vo c_int))) (vo c_str)) (w_or1 (q_eqS (n_o 0 (pv 0) rfl) (vo c_str))))) (ve (p_intS m_int (os_cons (n_o 0 (pv 0) rfl) os_nil))) (ve c_non))))))) ?_ rfl ?_
  · rintro as Q ⟨p, rfl, _⟩; rfl
  · rintro as Q ⟨p, rfl, tx, q⟩
    have hp := tx.1
    have lb := bareS_len p
    refine cut (fun ρ => ρ = [some (.dat (.str p)), some (.dat (.str (bareS p))), none]) ?_ fun g hg => ?_
    rotate_left
    · simp
      refine ⟨by omega, ?_⟩
      split
      · next h => exact ⟨by omega, hg _ (by rw [bareS, if_pos ((cut_minus p).1 h)])⟩
      · next h => exact hg _ (by rw [bareS, if_neg fun z => h ((cut_minus p).2 z)])
    rintro ρ rfl
    refine cut (fun ρ => okB p.cps.toList = true ∧ ρ = [some (.dat (.str p)), some (.dat (.str (bareS p))), none]) ?_ fun g hg => ?_
    rotate_left
    · have no : okB p.cps.toList = false → Q (.dat .non) [.dat (.str p)] := fun h => by rwa [numD_no h] at q
      simp
      refine ⟨by omega, ?_⟩
      split
      · next h1 =>
        split
        · next h2 =>
          refine lc_map dgD ?_ ?_ ?_ ?_
          · rw [strD, List.length_map, len_cps]
            simp [sizeLine]
            omega
          · simp [plainB]
          · intro d hm R hR
            obtain ⟨c, _, rfl⟩ := List.mem_map.mp hm
            simp [wipeR, unwipe]
            rw [in_dg]
            exact hR
          · refine ⟨_, dgs_all _, ?_⟩
            split
            · next h => exact no (okB_dgs_no h)
            · next h => exact hg _ ⟨okB_dgs h1 h2 h, rfl⟩
        · next h2 => exact no (okB_long h2)
      · next h1 => exact no (okB_short h1)
    rintro ρ ⟨ok, rfl⟩
    simp
    obtain ⟨c, e1, e2⟩ := bare_first ok
    refine ⟨by omega, c, e1, ?_⟩
    have h640 : p.length ≤ 640 := Nat.le_trans (ok_len ok) (by decide)
    by_cases z : c = 48
    · subst z
      refine .inl ⟨by rfl, ?_⟩
      split
      · next h => exact ⟨_, int_of ok, h640, by rwa [numD_yes (by rw [h]; exact can0)] at q⟩
      · next h => rwa [numD_lead ok e2 h] at q
    · exact .inr ⟨fun h => z (sign_inj h), _, int_of ok, h640, by rwa [numD_yes (can_first ok e2 z)] at q⟩
theorem b_number_in {k : Nat} {C : Ctr} (G : FnG P w K mg base CX0 k f fd (["text"] : List Str) (spD K C)) (F : FunD K "number_in" "number_in" (defArgs s_number_in) (defBody s_number_in) (defScope s_number_in) [] [] f fd) (hm : mg "number_in" = some (.ref f)) : Hs P w K mg base "number_in" (["text"] : List Str) k C := by
  refine hsF G hm F ?_
  intro kV doc pm an cdv ct us hl
  match us, hl with
  | [u0], _ => rfl

theorem g_show_polynomial (F : FunD K "show_polynomial" "show_polynomial" (defArgs s_show_polynomial) (defBody s_show_polynomial) (defScope s_show_polynomial) [] [] f fd)  (m_str : mg "str" = none) :
    FnG P w K mg base CX0 (1) f fd (["one"] : List Str) (spD K cShowP) := by
  have S : FnScope (["one", "number"] : List Str) (["one"] : List Str) (defScope s_show_polynomial) := ⟨rfl, rfl, rfl, by decide +kernel, rfl, by decide +kernel, by decide +kernel⟩
  have nd : (["one", "number"] : List Str).Nodup := by decide +kernel
  refine okF (k := 0) [] F S (fun cdv A outer s H E hr => (ss_one (s_ret (e_if (q_ne hr.r (n_o 0 (pv 0) rfl) (vo (ev (e_lst g_nil)))) (ve (v_join (vo c_str) (vo (ev (e_lc (own := [("number", 1)]) rfl nd (i_lt (n_v 0 (pv 0) rfl)) rfl (fun _ _ _ _ _ => (t_name (i := 1) nd)) (fun _ _ _ _ _ => ifs_nil) (fun _ _ _ _ _ => (ve (p_strI m_str (os_cons (n_o 1 (pv 1) rfl) os_nil))))))))) (ve c_str))))) ?_ rfl ?_
  · rintro as Q ⟨l, rfl, _⟩; rfl
  · rintro as Q ⟨l, rfl, hl, hs, q⟩
    simp
    refine ⟨okD_dI l, ?_⟩
    rw [eqD_dI]
    by_cases z : l = []
    · exact .inl ⟨by simp [z], by rwa [showT, if_pos z] at q⟩
    · refine .inr ⟨by simp [z], _, rfl, ?_⟩
      refine lc_map shD ?_ ?_ ?_ ?_
      · rw [List.length_map]
        simp [sizeLine]
        omega
      · simp [plainB]
      · intro d hm R hR
        obtain ⟨n, m, rfl⟩ := List.mem_map.mp hm
        simp [wipeR, unwipe]
        exact ⟨Sm.log ((hs n m).mono (by decide)) (by decide), hR⟩
      · refine ⟨_, .inl (shD_all l), ?_, ?_⟩
        · exact sh_size hl hs
        · rwa [showT, if_neg z] at q
theorem b_show_polynomial {k : Nat} {C : Ctr} (G : FnG P w K mg base CX0 k f fd (["one"] : List Str) (spD K C)) (F : FunD K "show_polynomial" "show_polynomial" (defArgs s_show_polynomial) (defBody s_show_polynomial) (defScope s_show_polynomial) [] [] f fd) (hm : mg "show_polynomial" = some (.ref f)) : Hs P w K mg base "show_polynomial" (["one"] : List Str) k C := by
  refine hsF G hm F ?_
  intro kV doc pm an cdv ct us hl
  match us, hl with
  | [u0], _ => rfl

theorem g_read_polynomial (F : FunD K "read_polynomial" "read_polynomial" (defArgs s_read_polynomial) (defBody s_read_polynomial) (defScope s_read_polynomial) [] [] f fd)  (h_number_in : Hs P w K mg base "number_in" ["text"] 1 cNumIn) (h_show_polynomial : Hs P w K mg base "show_polynomial" ["one"] 1 cShowP) :
    FnG P w K mg base CX0 (2) f fd (["text"] : List Str) (spD K cReadP) := by
  have S : FnScope (["text", "found", "piece"] : List Str) (["text"] : List Str) (defScope s_read_polynomial) := ⟨rfl, rfl, rfl, by decide +kernel, rfl, by decide +kernel, by decide +kernel⟩
  have nd : (["text", "found", "piece"] : List Str).Nodup := by decide +kernel
  refine okF (k := 1) [] F S (fun cdv A outer s H E hr => (ss_cons (s_lcS (i := 1) (own := [("piece", 2)]) rfl nd (i_lt (ev (e_split (n_o 0 (pv 0) rfl) (vo c_str)))) rfl (fun _ _ _ _ _ => (t_name (i := 2) nd)) (fun _ _ _ _ _ => ifs_nil) (fun _ _ _ _ _ => (e_call h_number_in (hr.mono (by omega)) (a_val (ve (n_v 2 (pv 2) rfl)) a_nil))))
    (ss_cons (s_if (q_inD (k := 0) (hr.mono (by omega)) (vo c_non) (n_o 1 (pv 1) rfl)) (ss_one s_never) ss_nil)
    (ss_cons (s_if (q_eq hr.r (n_o 1 (pv 1) rfl) (vo (ev (e_lst (g_cons (ve c_int) g_nil))))) (ss_one (s_ret (e_lst g_nil))) ss_nil)
    (ss_cons (s_if (t_w (w_or (q_eq hr.r (vo (v_ix (n_o 1 (pv 1) rfl) (vo (p_neg (vo c_int))))) (vo c_int)) (w_or1 (q_neS (vo (ev (e_call h_show_polynomial (hr.mono (by omega)) (a_val (ve (n_v 1 (pv 1) rfl)) a_nil)))) (n_o 0 (pv 0) rfl))))) (ss_one s_never) ss_nil)
    (ss_one (s_ret (ve (n_v 1 (pv 1) rfl))))))))) ?_ rfl ?_
  · rintro as Q ⟨w, l, rfl, _⟩; rfl
  · rintro as Q ⟨w, l, rfl, tx, hr, q⟩
    have hp := tx.1
    simp
    refine ⟨by decide, by omega, ?_⟩
    have hsl := split_len2 tx
    refine lc_map numOf ?_ ?_ ?_ ?_
    · rw [List.length_map]
      simp [sizeLine]
      exact Nat.le_trans hsl (by decide)
    · simp [plainB]
    · intro d hm R hR
      obtain ⟨p, m, rfl⟩ := List.mem_map.mp hm
      simp [wipeR, unwipe, cNumIn]
      exact ⟨(split_tx tx m).mono (by decide), hR⟩
    · obtain ⟨hc, hl⟩ := read_some hr
      have e1 : (SV.own ((List.map (SV.data ∘ SV.dat ∘ DD.str) (Txt.split w (Str.ofString " "))).map numOf)).data = dI ((Txt.split w blank).map val) := by
        rw [dI, ← nums_can hc]
        exact nums_data _
      simp only [e1]
      simp
      refine ⟨_, rfl, okD_dI _, inD_non_ints _, okD_dI _, okD_dI [0], ?_⟩
      rw [show eqD (dI ((Txt.split w blank).map val)) (DD.lst [DD.int 0]) = _ from eqD_zero _]
      rcases hl with ⟨h0, rfl⟩ | ⟨h0, h1, rfl⟩
      · rw [if_pos (decide_eq_true ((is_zero hc).2 h0))]
        exact q _ (by rfl)
      · rw [if_neg (by rw [decide_eq_true_eq]; exact fun z => h0 ((is_zero hc).1 z))]
        have ne : (Txt.split w blank).map val ≠ [] := fun z => split_ne w (List.map_eq_nil_iff.mp z)
        have hn := List.getLast?_eq_some_getLast ne
        refine ixT_last hn ⟨okD_int, by rw [eqD_int]; exact decide_eq_false fun z => h1 ((last_zero hc).1 (by rw [hn, z])), ?_⟩
        refine ⟨_, rfl, by rw [List.length_map]; exact Nat.le_trans hsl (by decide), ?_, ?_⟩
        · intro n m
          obtain ⟨p, mp, rfl⟩ := List.mem_map.mp m
          exact val_sm (List.all_eq_true.mp hc p mp)
        · simp
          refine ⟨(show_back hc).symm ▸ rfl, ?_⟩
          exact q _ rfl
theorem b_read_polynomial {k : Nat} {C : Ctr} (G : FnG P w K mg base CX0 k f fd (["text"] : List Str) (spD K C)) (F : FunD K "read_polynomial" "read_polynomial" (defArgs s_read_polynomial) (defBody s_read_polynomial) (defScope s_read_polynomial) [] [] f fd) (hm : mg "read_polynomial" = some (.ref f)) : Hs P w K mg base "read_polynomial" (["text"] : List Str) k C := by
  refine hsF G hm F ?_
  intro kV doc pm an cdv ct us hl
  match us, hl with
  | [u0], _ => rfl

theorem gx_read_polynomial (F : FunD K "read_polynomial" "read_polynomial" (defArgs s_read_polynomial) (defBody s_read_polynomial) (defScope s_read_polynomial) [] [] f fd)  (h_number_in : Hs P w K mg base "number_in" ["text"] 1 cNumIn) (h_show_polynomial : Hs P w K mg base "show_polynomial" ["one"] 1 cShowP) (rz_Unreadable : Hraise P w K mg base C_Unreadable "Unreadable") :
    FnG P w K mg base (L2.CX P w) (3) f fd (["text"] : List Str) (spE K (xReadP C_Unreadable)) := by
  have S : FnScope (["text", "found", "piece"] : List Str) (["text"] : List Str) (defScope s_read_polynomial) := ⟨rfl, rfl, rfl, by decide +kernel, rfl, by decide +kernel, by decide +kernel⟩
  have nd : (["text", "found", "piece"] : List Str).Nodup := by decide +kernel
  refine okX (k := 2) [] F S (fun cdv A outer s H E hr tk => (xs_cons (x_of (s_lcS (i := 1) (own := [("piece", 2)]) rfl nd (i_lt (ev (e_split (n_o 0 (pv 0) rfl) (vo c_str)))) rfl (fun _ _ _ _ _ => (t_name (i := 2) nd)) (fun _ _ _ _ _ => ifs_nil) (fun _ _ _ _ _ => (e_call h_number_in (hr.mono (by omega)) (a_val (ve (n_v 2 (pv 2) rfl)) a_nil)))))
    (xs_cons (x_if (q_inD (k := 0) (hr.mono (by omega)) (vo c_non) (n_o 1 (pv 1) rfl)) (xs_one (x_raise rz_Unreadable rfl tk (hr.mono (by omega)) (ve (n_v 0 (pv 0) rfl)))) (xs_of ss_nil))
    (xs_cons (x_of (s_if (q_eq hr.r (n_o 1 (pv 1) rfl) (vo (ev (e_lst (g_cons (ve c_int) g_nil))))) (ss_one (s_ret (e_lst g_nil))) ss_nil))
    (xs_cons (x_if (t_w (w_or (q_eq hr.r (vo (v_ix (n_o 1 (pv 1) rfl) (vo (p_neg (vo c_int))))) (vo c_int)) (w_or1 (q_neS (vo (ev (e_call h_show_polynomial (hr.mono (by omega)) (a_val (ve (n_v 1 (pv 1) rfl)) a_nil)))) (n_o 0 (pv 0) rfl))))) (xs_one (x_raise rz_Unreadable rfl tk (hr.mono (by omega)) (ve (n_v 0 (pv 0) rfl)))) (xs_of ss_nil))
    (xs_one (x_of (s_ret (ve (n_v 1 (pv 1) rfl)))))))))) ?_ rfl ?_
  · rintro as Q ⟨w, rfl, _⟩; rfl
  · rintro as Q ⟨w, rfl, tx, hr, q⟩
    have hp := tx.1
    simp
    refine ⟨by decide, by omega, ?_⟩
    have hsl := split_len2 tx
    refine lc_map numOf ?_ ?_ ?_ ?_
    · rw [List.length_map]
      simp [sizeLine]
      exact Nat.le_trans hsl (by decide)
    · simp [plainB]
    · intro d hm R hR
      obtain ⟨p, m, rfl⟩ := List.mem_map.mp hm
      simp [wipeR, unwipe, cNumIn]
      exact ⟨(split_tx tx m).mono (by decide), hR⟩
    · have e1 : (SV.own ((List.map (SV.data ∘ SV.dat ∘ DD.str) (Txt.split w (Str.ofString " "))).map numOf)).data = .lst ((Txt.split w blank).map numD) := nums_data _
      simp only [e1]
      simp
      refine ⟨okD_nums _, ?_⟩
      by_cases hc : (Txt.split w blank).all can = true
      · obtain ⟨h0, h1⟩ := read_none hc hr
        rw [nums_can hc, if_neg (by rw [inD_non_ints]; decide)]
        have ne : (Txt.split w blank).map val ≠ [] := fun z => split_ne w (List.map_eq_nil_iff.mp z)
        refine ⟨okD_dI _, okD_dI [0], (eqD_zero _).trans (decide_eq_false fun z => h0 ((is_zero hc).1 z)), ?_⟩
        refine ixT_last ((last_zero hc).2 h1) ⟨okD_int, ?_⟩
        rw [if_pos (by rw [eqD_int]; decide)]
        exact q
      · rw [if_pos (inD_non_no hc)]
        exact q

theorem g__law_is_number (F : FunD K "_law_is_number" "_law_is_number" (defArgs s__law_is_number) (defBody s__law_is_number) (defScope s__law_is_number) [] [] f fd)  (m_len : mg "len" = none) (m_str : mg "str" = none) (m_int : mg "int" = none) :
    FnG P w K mg base CX0 (1) f fd (["piece"] : List Str) (spD K cIsNum) := by
  have S : FnScope (["piece", "size", "sign_now"] : List Str) (["piece"] : List Str) (defScope s__law_is_number) := ⟨rfl, rfl, rfl, by decide +kernel, rfl, by decide +kernel, by decide +kernel⟩
  have nd : (["piece", "size", "sign_now"] : List Str).Nodup := by decide +kernel
  refine okF (k := 0) [] F S (fun cdv A outer s H E hr => (ss_cons (s_set (i := 1) nd (ve (ev (e_if (q_eqS (vo (v_slS (n_o 0 (pv 0) rfl) s_none (s_some (vo c_int)))) (vo c_str)) (ve (v_slS (n_o 0 (pv 0) rfl) (s_some (vo c_int)) s_none)) (ve (n_v 0 (pv 0) rfl))))))
    (ss_cons (s_if (t_w (w_or (t_not (q_chn op_lt op_lt sc_B0 sc_B0 (vo c_int) (vo (p_len m_len (os_cons (n_o 1 (pv 1) rfl) os_nil))) (vo c_int))) (w_or1 (q_ne hr.r (vo (ev (e_lc (own := [("sign_now", 2)]) rfl nd (i_str (n_v 1 (pv 1) rfl)) rfl (fun _ _ _ _ _ => (t_name (i := 2) nd)) (fun _ _ _ _ _ => (ifs_one (q_ninS (n_o 2 (pv 2) rfl) (vo c_str)))) (fun _ _ _ _ _ => (ve (n_v 2 (pv 2) rfl)))))) (vo (ev (e_lst g_nil))))))) (ss_one (s_ret (ve c_bl))) ss_nil)
    (ss_one (s_ret (ve (p_eqS (vo (p_strI m_str (os_cons (vo (p_intS m_int (os_cons (n_o 0 (pv 0) rfl) os_nil))) os_nil))) (n_o 0 (pv 0) rfl)))))))) ?_ rfl ?_
  · rintro as Q ⟨p, rfl, _⟩; rfl
  · rintro as Q ⟨p, rfl, tx, q⟩
    have hp := tx.1
    have lb := bareS_len p
    refine cut (fun ρ => ρ = [some (.dat (.str p)), some (.dat (.str (bareS p))), none]) ?_ fun g hg => ?_
    rotate_left
    · simp
      refine ⟨by omega, ?_⟩
      split
      · next h => exact ⟨by omega, hg _ (by rw [bareS, if_pos ((cut_minus p).1 h)])⟩
      · next h => exact hg _ (by rw [bareS, if_neg fun z => h ((cut_minus p).2 z)])
    rintro ρ rfl
    have no : okB p.cps.toList = false → Q (.dat (.bl false)) [.dat (.str p)] := fun h => by rwa [can_no h] at q
    simp
    refine ⟨by omega, ?_⟩
    split
    · next h1 =>
      split
      · next h2 =>
        refine lc_filter noDg ?_ ?_ ?_ ?_
        · rw [strD, List.length_map, len_cps]
          simp [sizeLine]
          omega
        · simp [plainB]
        · intro d hm R0 R1 y n
          obtain ⟨c, _, rfl⟩ := List.mem_map.mp hm
          simp [wipeR, unwipe]
          have e := in_dg c
          by_cases z : dg c = true
          · exact .inl ⟨of_decide_eq_true (e.trans z), n (by simp [noDg, z])⟩
          · exact .inr ⟨fun h => z (e.symm.trans (decide_eq_true h)), y (by simp [noDg, z])⟩
        · rw [dats_data, eqD_none]
          refine ⟨okD_txs fun d m => ?_, ?_⟩
          · obtain ⟨c, mc, rfl⟩ := List.mem_map.mp (List.mem_filter.mp m).1
            refine ⟨_, rfl, fun c' m' => ?_⟩
            obtain rfl : c' = c := by simpa using m'
            exact tx.2 _ (bareS_mem mc)
          · by_cases z : (strD (bareS p)).filter noDg = []
            · have ok : okB p.cps.toList = true := by
                rw [okB_eq, decide_eq_true (by omega : 1 ≤ (bareS p).length), decide_eq_true (by omega : (bareS p).length ≤ 9), (noDg_none _).1 z]
                rfl
              refine .inl ⟨decide_eq_true z, ?_⟩
              simp
              refine ⟨_, int_of ok, Nat.le_trans (ok_len ok) (by decide), Sm.log ((val_smB ok).mono (by decide)) (by decide), ?_⟩
              rw [← can_is ok] at q
              exact q
            · refine .inr ⟨decide_eq_false z, no ?_⟩
              rw [okB_eq, Bool.and_eq_false_iff]
              exact .inr (by simpa using fun h => z ((noDg_none _).2 h))
      · next h2 => exact no (okB_long (by omega))
    · next h1 => exact no (okB_short (by omega))
theorem b__law_is_number {k : Nat} {C : Ctr} (G : FnG P w K mg base CX0 k f fd (["piece"] : List Str) (spD K C)) (F : FunD K "_law_is_number" "_law_is_number" (defArgs s__law_is_number) (defBody s__law_is_number) (defScope s__law_is_number) [] [] f fd) (hm : mg "_law_is_number" = some (.ref f)) : Hs P w K mg base "_law_is_number" (["piece"] : List Str) k C := by
  refine hsF G hm F ?_
  intro kV doc pm an cdv ct us hl
  match us, hl with
  | [u0], _ => rfl

theorem g__law_polynomial_of (F : FunD K "_law_polynomial_of" "_law_polynomial_of" (defArgs s__law_polynomial_of) (defBody s__law_polynomial_of) (defScope s__law_polynomial_of) [] [] f fd)  (h__law_is_number : Hs P w K mg base "_law_is_number" ["piece"] 1 cIsNum) (m_int : mg "int" = none) :
    FnG P w K mg base CX0 (2) f fd (["wording"] : List Str) (spD K cPolyOf) := by
  have S : FnScope (["wording", "pieces_now", "piece"] : List Str) (["wording"] : List Str) (defScope s__law_polynomial_of) := ⟨rfl, rfl, rfl, by decide +kernel, rfl, by decide +kernel, by decide +kernel⟩
  have nd : (["wording", "pieces_now", "piece"] : List Str).Nodup := by decide +kernel
  refine okF (k := 1) [] F S (fun cdv A outer s H E hr => (ss_cons (s_set (i := 1) nd (ve (ev (e_split (n_o 0 (pv 0) rfl) (vo c_str)))))
    (ss_cons (s_if (q_ne hr.r (vo (ev (e_lc (own := [("piece", 2)]) rfl nd (i_lt (n_v 1 (pv 1) rfl)) rfl (fun _ _ _ _ _ => (t_name (i := 2) nd)) (fun _ _ _ _ _ => (ifs_one (t_not (t_val (ev (e_call h__law_is_number (hr.mono (by omega)) (a_val (ve (n_v 2 (pv 2) rfl)) a_nil))))))) (fun _ _ _ _ _ => (ve (n_v 2 (pv 2) rfl)))))) (vo (ev (e_lst g_nil)))) (ss_one (s_ret (e_lst g_nil))) ss_nil)
    (ss_cons (s_if (q_eqS (n_o 0 (pv 0) rfl) (vo c_str)) (ss_one (s_ret (e_lst (g_cons (e_lst g_nil) g_nil)))) ss_nil)
    (ss_one (s_ret (e_if (q_eqS (vo (v_ix (n_o 1 (pv 1) rfl) (vo (p_neg (vo c_int))))) (vo c_str)) (e_lst g_nil) (e_lst (g_cons (e_lc (own := [("piece", 2)]) rfl nd (i_lt (n_v 1 (pv 1) rfl)) rfl (fun _ _ _ _ _ => (t_name (i := 2) nd)) (fun _ _ _ _ _ => ifs_nil) (fun _ _ _ _ _ => (ve (p_intS m_int (os_cons (n_o 2 (pv 2) rfl) os_nil))))) g_nil))))))))) ?_ rfl ?_
  · rintro as Q ⟨w, rfl, _⟩; rfl
  · rintro as Q ⟨w, rfl, tx, q⟩
    have hp := tx.1
    simp
    refine ⟨by decide, by omega, ?_⟩
    have hsl := split_len2 tx
    have e1 : List.map (SV.data ∘ SV.dat ∘ DD.str) (Txt.split w (Str.ofString " ")) = (Txt.split w blank).map DD.str := rfl
    rw [e1]
    refine lc_filter noCan ?_ ?_ ?_ ?_
    · rw [List.length_map]
      simp [sizeLine]
      exact Nat.le_trans hsl (by decide)
    · simp [plainB]
    · intro d hm R0 R1 y n
      obtain ⟨p, m, rfl⟩ := List.mem_map.mp hm
      simp [wipeR, unwipe, cIsNum]
      refine ⟨(split_tx tx m).mono (by decide), ?_⟩
      cases e : can p with
      | true => simpa using n (by simp [noCan, e])
      | false => simpa using y (by simp [noCan, e])
    · rw [dats_data, eqD_none]
      refine ⟨okD_txs fun d m => ?_, ?_⟩
      · obtain ⟨p, mp, rfl⟩ := List.mem_map.mp (List.mem_filter.mp m).1
        exact ⟨_, rfl, (split_tx tx mp).2⟩
      · by_cases hc : (Txt.split w blank).all can = true
        · refine .inl ⟨decide_eq_true ((noCan_none _).2 hc), ?_⟩
          simp
          split
          · next h0 => exact q _ (by rw [resD, readT, if_pos hc, if_pos h0]; rfl)
          · next h0 =>
            obtain ⟨p, hl⟩ : ∃ p, (Txt.split w blank).getLast? = some p := ⟨_, List.getLast?_eq_some_getLast (split_ne w)⟩
            refine ixT_lastD (d := .str p) (by rw [List.getLast?_map, hl]; rfl) ⟨_, rfl, ?_⟩
            split
            · next h1 => exact q _ (by simp [resD, readT, hc, h0, hl, h1])
            · next h1 =>
              refine lc_map intD ?_ ?_ ?_ ?_
              · rw [List.length_map]
                simp [sizeLine]
                exact Nat.le_trans hsl (by decide)
              · simp [plainB]
              · intro d hm R hR
                obtain ⟨p, m, rfl⟩ := List.mem_map.mp hm
                have ok := can_ok (List.all_eq_true.mp hc p m)
                simp [wipeR, unwipe]
                exact ⟨_, int_of ok, Nat.le_trans (ok_len ok) (by decide), hR⟩
              · refine q _ ((ints_data _).trans ?_)
                simp [resD, readT, hc, h0, hl, h1]
        · refine .inr ⟨decide_eq_false fun z => hc ((noCan_none _).1 z), q _ ?_⟩
          simp [resD, readT, hc]
theorem b__law_polynomial_of {k : Nat} {C : Ctr} (G : FnG P w K mg base CX0 k f fd (["wording"] : List Str) (spD K C)) (F : FunD K "_law_polynomial_of" "_law_polynomial_of" (defArgs s__law_polynomial_of) (defBody s__law_polynomial_of) (defScope s__law_polynomial_of) [] [] f fd) (hm : mg "_law_polynomial_of" = some (.ref f)) : Hs P w K mg base "_law_polynomial_of" (["wording"] : List Str) k C := by
  refine hsF G hm F ?_
  intro kV doc pm an cdv ct us hl
  match us, hl with
  | [u0], _ => rfl

theorem g__law_caught_one (F : FunD K "_law_caught_one" "_law_caught_one" (defArgs s__law_caught_one) (defBody s__law_caught_one) (defScope s__law_caught_one) [] [] f fd)  (h_show_polynomial : Hs P w K mg base "show_polynomial" ["one"] 1 cShowP) (m_isinstance : mg "isinstance" = none) (em_Unreadable_TankError : PySem.W.exmOne K (.ref C_Unreadable) (.ref C_TankError) = some true) (xc_Unreadable : ∃ fI, XCl K C_Unreadable fI) (kn_Unreadable_InvalidPolynomial : PySem.W.kitOne K (.ref C_Unreadable) (.ref C_InvalidPolynomial) = some false) (kt_Unreadable_Unreadable : PySem.W.kitOne K (.ref C_Unreadable) (.ref C_Unreadable) = some true) (hb_read_polynomial : Hb P w K mg base "read_polynomial" ["text"] 3 cReadP (xReadP C_Unreadable)) (hbk_read_polynomial : HbK P w K mg base "read_polynomial" ["text"] ["text"] 3 cReadP (xReadP C_Unreadable)) (n_Unreadable : mg "Unreadable" = some (.ref C_Unreadable)) (n_InvalidPolynomial : mg "InvalidPolynomial" = some (.ref C_InvalidPolynomial)) (n_TankError : mg "TankError" = some (.ref C_TankError)) :
    FnG P w K mg base CX0 (4) f fd (["wording", "way"] : List Str) (spD K cCaughtP) := by
  have S : FnScope (["wording", "way", "found", "again", "e", "odd"] : List Str) (["wording", "way"] : List Str) (defScope s__law_caught_one) := ⟨rfl, rfl, rfl, by decide +kernel, rfl, by decide +kernel, by decide +kernel⟩
  have nd : (["wording", "way", "found", "again", "e", "odd"] : List Str).Nodup := by decide +kernel
  refine okF (k := 3) [] F S (fun cdv A outer s H E hr => (ss_cons (s_set (i := 2) nd (e_lst g_nil))
    (ss_cons (s_ofx (x_tryM (rfl : K = K) rfl rfl nd takes0 (fun W pn xe tk po => (xs_cons (x_set (i := 3) nd (ex_frz (ex_if (q_eq hr.r (n_o 1 (pv 1) rfl) (vo c_int)) (ex_call tk hb_read_polynomial (hr.mono (by omega)) (ax_val (ex_of (ve (n_v 0 (pv 0) rfl))) ax_nil)) (ex_callK tk hbk_read_polynomial (hr.mono (by omega)) (k_val (n_v 0 (pv 0) rfl) k_nil) (by simp)))))
    (xs_one (x_of (s_set (i := 2) nd (e_if (q_eqS (vo (ev (e_call h_show_polynomial (hr.mono (by omega)) (a_val (ve (n_v 3 (pv 3) rfl)) a_nil)))) (n_o 0 (pv 0) rfl)) (e_lst (g_cons (ve (n_v 3 (pv 3) rfl)) g_nil)) (e_lst (g_cons (ve c_str) g_nil)))))))) (.cons (i := 4) rfl rfl ⟨rfl, by decide, .inl n_TankError⟩ (fun a oe C dx pn hz hv => (ss_cons (s_set (i := 5) nd (ve (v_or (v_is (rfl : K = K) hz hv m_isinstance (n_o 4 (pv 4) rfl) (pe_cls n_InvalidPolynomial) rel_ref) (v_one (v_not (v_is (rfl : K = K) hz hv m_isinstance (n_o 4 (pv 4) rfl) (pe_cls n_Unreadable) rel_ref))))))
    (ss_one (s_set (i := 2) nd (e_if (t_w (w_or (t_val (n_v 5 (pv 5) rfl)) (w_or1 (q_neS (vo (v_xv (rfl : K = K) hz hv (n_o 4 (pv 4) rfl))) (n_o 0 (pv 0) rfl))))) (e_lst (g_cons (ve c_str) g_nil)) (e_lst g_nil)))))) .nil)) rfl)
    (ss_one (s_ret (n_mv 2 (pv 2) rfl)))))) ?_ rfl ?_
  · rintro as Q ⟨w, m, rfl, _⟩; rfl
  · rintro as Q ⟨w, m, rfl, tx, q⟩
    obtain ⟨f1, xt⟩ := xc_Unreadable
    refine cut (fun ρ => ρ = [some (.dat (.str w)), some (.dat (.int m)), some (.own []), none, none, none]) ?_ fun g hg => ?_
    rotate_left
    · simp
      exact hg _ rfl
    rintro ρ rfl
    refine cut (fun ρ => ∃ t x3 x4 x5, t.data = resD w ∧ ρ = [some (.dat (.str w)), some (.dat (.int m)), some t, x3, x4, x5]) ?_ fun g hg => ?_
    rotate_left
    · cases e : readT w with
      | some l =>
        obtain ⟨gl, gs, gw⟩ := read_good tx e
        have er : resD w = .lst [dI l] := by rw [resD, e]
        simp [xTryM]
        split
        · refine .inl ⟨w, l, rfl, tx, e, fun t ht => ?_⟩
          simp [ht]
          refine ⟨l, rfl, gl, gs, ?_⟩
          simp
          rw [if_pos gw]
          exact hg _ ⟨.own [.dat (dI l)], _, _, _, er.symm, rfl⟩
        · refine .inl ⟨w, l, rfl, tx, e, fun t ht => ?_⟩
          simp [ht]
          refine ⟨l, rfl, gl, gs, ?_⟩
          simp
          rw [if_pos gw]
          exact hg _ ⟨.own [.dat (dI l)], _, _, _, er.symm, rfl⟩
      | none =>
        have er : resD w = .lst [] := by rw [resD, e]
        simp [xTryM]
        split
        · refine .inr ⟨w, rfl, tx, e, ?_⟩
          refine hdsX_yes em_Unreadable_TankError fun a dx => ?_
          simp [offD]
          exact ⟨xt.e, .inl ⟨kn_Unreadable_InvalidPolynomial, xt.e, .inr ⟨kt_Unreadable_Unreadable, xt.x, xt.v, hg _ ⟨.own [], _, _, _, er.symm, rfl⟩⟩⟩⟩
        · refine .inr ⟨w, rfl, tx, e, ?_⟩
          refine hdsX_yes em_Unreadable_TankError fun a dx => ?_
          simp [offD]
          exact ⟨xt.e, .inl ⟨kn_Unreadable_InvalidPolynomial, xt.e, .inr ⟨kt_Unreadable_Unreadable, xt.x, xt.v, hg _ ⟨.own [], _, _, _, er.symm, rfl⟩⟩⟩⟩
    rintro ρ ⟨t, x3, x4, x5, e, rfl⟩
    simp
    exact q _ e
theorem b__law_caught_one {k : Nat} {C : Ctr} (G : FnG P w K mg base CX0 k f fd (["wording", "way"] : List Str) (spD K C)) (F : FunD K "_law_caught_one" "_law_caught_one" (defArgs s__law_caught_one) (defBody s__law_caught_one) (defScope s__law_caught_one) [] [] f fd) (hm : mg "_law_caught_one" = some (.ref f)) : Hs P w K mg base "_law_caught_one" (["wording", "way"] : List Str) k C := by
  refine hsF G hm F ?_
  intro kV doc pm an cdv ct us hl
  match us, hl with
  | [u0, u1], _ => rfl

theorem g__law_odd_one (F : FunD K "_law_odd_one" "_law_odd_one" (defArgs s__law_odd_one) (defBody s__law_odd_one) (defScope s__law_odd_one) [] [] f fd)  (h__law_coin : Hs P w K mg base "_law_coin" ["purse", "many"] 1 cCoin) (m_len : mg "len" = none) :
    FnG P w K mg base CX0 (2) f fd (["purse", "wording"] : List Str) (spD K cOddP) := by
  have S : FnScope (["purse", "wording", "menu", "many"] : List Str) (["purse", "wording"] : List Str) (defScope s__law_odd_one) := ⟨rfl, rfl, rfl, by decide +kernel, rfl, by decide +kernel, by decide +kernel⟩
  have nd : (["purse", "wording", "menu", "many"] : List Str).Nodup := by decide +kernel
  refine okF (k := 1) [0] F S (fun cdv A outer s H E hr => (ss_tok (i := 2) nd (g_cons (ve c_str) (g_cons (ve c_str) (g_cons (ve c_str) (g_cons (ve c_str) (g_cons (ve c_str) (g_cons (ve c_str) (g_cons (ve c_str) (g_cons (ve c_str) (g_cons (ve c_str) (g_cons (ve c_str) (g_cons (ve c_str) (g_cons (ve c_str) g_nil))))))))))))
    (ssT_cons (sT_of (s_set (i := 2) nd (ve (ev (e_add (ve (n_v 2 (pv 2) rfl)) (e_lst (g_cons (ve c_str) (g_cons (ve c_str) (g_cons (ve c_str) (g_cons (ve c_str) (g_cons (ve c_str) (g_cons (ve c_str) (g_cons (ve c_str) (g_cons (ve c_str) (g_cons (ve c_str) (g_cons (ve c_str) g_nil))))))))))))))))
    (ssT_cons (sT_of (s_set (i := 2) nd (ve (ev (e_add (ve (n_v 2 (pv 2) rfl)) (e_lst (g_cons (ve c_str) (g_cons (ve c_str) (g_cons (ve c_str) (g_cons (ve c_str) (g_cons (ve c_str) (g_cons (ve c_str) (g_cons (ve c_str) (g_cons (ve c_str) (g_cons (ve c_str) g_nil)))))))))))))))
    (ssT_cons (sT_of (s_set (i := 2) nd (ve (ev (e_add (ve (n_v 2 (pv 2) rfl)) (e_lst (g_cons (ve c_str) (g_cons (ve c_str) (g_cons (ve c_str) (g_cons (ve c_str) (g_cons (ve c_str) (g_cons (ve c_str) g_nil))))))))))))
    (ssT_cons (sT_of (s_set (i := 3) nd (ve (p_add (vo c_int) (vo (ev (e_call h__law_coin (hr.mono (by omega)) (a_ref 0 (pv 0) rfl (a_val (ve c_int) a_nil)))))))))
    (ssT_cons (sT_of (s_set (i := 2) nd (ve (ev (e_add (ve (n_v 2 (pv 2) rfl)) (e_lst (g_cons (ve (v_join (vo c_str) (vo (ev (e_rep (e_lst (g_cons (ve c_str) g_nil)) (ve (n_v 3 (pv 3) rfl))))))) (g_cons (e_add (ve (v_join (vo c_str) (vo (ev (e_rep (e_lst (g_cons (ve c_str) g_nil)) (ve (n_v 3 (pv 3) rfl))))))) (ve c_str)) g_nil))))))))
    (ssT_cons (sT_of (s_set (i := 2) nd (ve (ev (e_add (ve (n_v 2 (pv 2) rfl)) (e_lst (g_cons (e_add (ve (v_join (vo c_str) (vo (ev (e_rep (e_lst (g_cons (ve c_str) g_nil)) (ve (n_v 3 (pv 3) rfl))))))) (ve c_str)) (g_cons (e_add (ve (v_join (vo c_str) (vo (ev (e_rep (e_lst (g_cons (ve c_str) g_nil)) (ve (n_v 3 (pv 3) rfl))))))) (ve c_str)) g_nil))))))))
    (ssT_cons (sT_set (i := 2) nd (eT_dat (eT_add (ve (n_v 2 (pv 2) rfl)) (eT_lst (gT_cons (eT_of (e_add (ve (n_v 1 (pv 1) rfl)) (ve c_str))) (gT_cons (eT_of (e_add (ve (n_v 1 (pv 1) rfl)) (ve c_str))) (gT_cons (eT_of (e_add (ve (n_v 1 (pv 1) rfl)) (ve c_str))) (gT_cons (eT_repl (n_o 1 (pv 1) rfl)) gT_nil))))))))
    (ssT_cons (sT_set (i := 2) nd (eT_dat (eT_add (ve (n_v 2 (pv 2) rfl)) (eT_lst (gT_cons (eT_repl (n_o 1 (pv 1) rfl)) (gT_cons (eT_of (ve (v_revS (n_o 1 (pv 1) rfl)))) gT_nil))))))
    (ssT_of (ss_one (s_ret (ve (v_ix (n_o 2 (pv 2) rfl) (vo (ev (e_call h__law_coin (hr.mono (by omega)) (a_ref 0 (pv 0) rfl (a_val (ve (p_len m_len (os_cons (n_o 2 (pv 2) rfl) os_nil))) a_nil)))))))))))))))))))) ?_ rfl ?_
  · rintro as Q ⟨s, c, w, rfl, _⟩; rfl
  · rintro as Q ⟨s, c, w, rfl, hs, hc, tx, q⟩
    refine cut (fun ρ => Menu 13 s w ρ) ?_ fun g hg => ?_
    rotate_left
    · simp
      exact hg _ ⟨_, _, rfl, txts (l := [(("" : String) : Str), ((" " : String) : Str), (("0" : String) : Str), (("00" : String) : Str), (("-0" : String) : Str), (("0 0" : String) : Str), (("0 1" : String) : Str), (("1 0" : String) : Str), (("1 0 0" : String) : Str), (("0 0 1" : String) : Str), (("1" : String) : Str), (("-1" : String) : Str), (("+1" : String) : Str)]) (by decide +kernel), rfl⟩
    rintro ρ ⟨l, x3, hl, hx, rfl⟩
    refine cut (fun ρ => Menu 23 s w ρ) ?_ fun g hg => ?_
    rotate_left
    · simp
      exact ⟨by omega, hg _ ⟨_, _, by rw [List.length_append, hl]; rfl, txt_app hx (txts (l := [(("--1" : String) : Str), (("- 1" : String) : Str), (("1 -" : String) : Str), (("01" : String) : Str), (("-01" : String) : Str), (("1 02" : String) : Str), (("1 -2" : String) : Str), (("1  2" : String) : Str), ((" 1" : String) : Str), (("1 " : String) : Str)]) (by decide +kernel)), rfl⟩⟩
    rintro ρ ⟨l, x3, hl, hx, rfl⟩
    refine cut (fun ρ => Menu 32 s w ρ) ?_ fun g hg => ?_
    rotate_left
    · simp
      exact ⟨by omega, hg _ ⟨_, _, by rw [List.length_append, hl]; rfl, txt_app hx (txts (l := [(("1,2" : String) : Str), (("1 2,3" : String) : Str), (("1.0" : String) : Str), (("1/2" : String) : Str), (("1 1/2" : String) : Str), (("w" : String) : Str), (("1 w" : String) : Str), (("1 + w" : String) : Str), (("999999999" : String) : Str)]) (by decide +kernel)), rfl⟩⟩
    rintro ρ ⟨l, x3, hl, hx, rfl⟩
    refine cut (fun ρ => Menu 38 s w ρ) ?_ fun g hg => ?_
    rotate_left
    · simp
      exact ⟨by omega, hg _ ⟨_, _, by rw [List.length_append, hl]; rfl, txt_app hx (txts (l := [(("1000000000" : String) : Str), (("-999999999 1" : String) : Str), (("1 -1000000000" : String) : Str), (("1_0" : String) : Str), (("0x1" : String) : Str), (("1e3" : String) : Str)]) (by decide +kernel)), rfl⟩⟩
    rintro ρ ⟨l, x3, hl, hx, rfl⟩
    refine cut (fun ρ => ∃ (s' : SV) (c' : Nat) (m : Int), Sk c' s' ∧ c' ≤ c + 1 ∧ 1 ≤ m ∧ m ≤ 600 ∧ ρ = [some s', some (.dat (.str w)), some (.dat (.lst l)), some (.dat (.int m))]) ?_ fun g hg => ?_
    rotate_left
    · simp [cCoin]
      refine ⟨c, hs, by omega, sm_lt (m := 600) (by decide), fun n s' c' n0 n1 hs' hc' => hg _ ⟨s', c', 1 + n, hs', by omega, by omega, by omega, rfl⟩⟩
    rintro ρ ⟨s, c', m, hs, hc', m1, m2, rfl⟩
    refine cut (fun ρ => ∃ l, l.length = 40 ∧ (∀ d ∈ l, txt d) ∧ ρ = [some s, some (.dat (.str w)), some (.dat (.lst l)), some (.dat (.int m))]) ?_ fun g hg => ?_
    rotate_left
    · simp
      have mN : m.toNat ≤ 600 := by omega
      have t1 : Tx 1 (("1" : String) : Str) := by decide +kernel
      have tb : Tx 1 ((" " : String) : Str) := by decide +kernel
      have t12 : Tx 3 (("-12" : String) : Str) := by decide +kernel
      have t0 : Tx 2 ((" 0" : String) : Str) := by decide +kernel
      have j1 := joinr_tx t1 tb m.toNat
      have j2 := joinr_tx t12 tb m.toNat
      have k1 := repl_size (n := m.toNat) t1.1 tb.1
      have k2 := repl_size (n := m.toNat) t12.1 tb.1
      have z1 := j2.1
      have z2 := t0.1
      refine ⟨by omega, by omega, by omega, _, rep_txt, by omega, by omega, by omega, by omega, _, rep_txt, by omega, by omega, by omega, ?_⟩
      refine hg _ ⟨_, by rw [List.length_append, hl]; rfl, txt_app hx fun d md => ?_, rfl⟩
      simp only [List.mem_cons, List.not_mem_nil, or_false] at md
      rcases md with rfl | rfl
      · exact ⟨_, rfl, j1.mono (by omega)⟩
      · exact ⟨_, rfl, (j2.app t0).mono (by omega)⟩
    rintro ρ ⟨l, hl, hx, rfl⟩
    refine cut (fun ρ => ∃ l, l.length = 42 ∧ (∀ d ∈ l, txt d) ∧ ρ = [some s, some (.dat (.str w)), some (.dat (.lst l)), some (.dat (.int m))]) ?_ fun g hg => ?_
    rotate_left
    · simp
      have mN : m.toNat ≤ 600 := by omega
      have t1 : Tx 1 (("0" : String) : Str) := by decide +kernel
      have tb : Tx 1 ((" " : String) : Str) := by decide +kernel
      have t12 : Tx 1 (("3" : String) : Str) := by decide +kernel
      have t0 : Tx 2 ((" 7" : String) : Str) := by decide +kernel
      have j1 := joinr_tx t1 tb m.toNat
      have j2 := joinr_tx t12 tb m.toNat
      have k1 := repl_size (n := m.toNat) t1.1 tb.1
      have k2 := repl_size (n := m.toNat) t12.1 tb.1
      have z1 := j1.1
      have z2 := t0.1
      have z3 := j2.1
      have z4 := tb.1
      refine ⟨by omega, by omega, by omega, _, rep_txt, by omega, by omega, by omega, by omega, by omega, _, rep_txt, by omega, by omega, by omega, ?_⟩
      refine hg _ ⟨_, by rw [List.length_append, hl]; rfl, txt_app hx fun d md => ?_, rfl⟩
      simp only [List.mem_cons, List.not_mem_nil, or_false] at md
      rcases md with rfl | rfl
      · exact ⟨_, rfl, (j1.app t0).mono (by omega)⟩
      · exact ⟨_, rfl, (j2.app tb).mono (by omega)⟩
    rintro ρ ⟨l, hl, hx, rfl⟩
    refine cut (fun ρ => ∃ l, l.length = 46 ∧ (∀ d ∈ l, txt d) ∧ ρ = [some s, some (.dat (.str w)), some (.dat (.lst l)), some (.dat (.int m))]) ?_ fun g hg => ?_
    rotate_left
    · simp
      have t0 : Tx 2 ((" 0" : String) : Str) := by decide +kernel
      have t5 : Tx 2 ((" 5" : String) : Str) := by decide +kernel
      have tb : Tx 1 ((" " : String) : Str) := by decide +kernel
      have tt : Tx 2 (("  " : String) : Str) := by decide +kernel
      have z0 := t0.1
      have z5 := t5.1
      have zb := tb.1
      have ztt : (w.length + 1) * (("  " : String) : Str).length ≤ 101 * 2 := Nat.mul_le_mul (by have := tx.1; omega) tt.1
      have zw := tx.1
      refine ⟨by omega, by omega, by omega, by decide +kernel, by omega, by omega, ?_⟩
      refine hg _ ⟨_, by rw [List.length_append, hl]; rfl, txt_app hx fun d md => ?_, rfl⟩
      simp only [List.mem_cons, List.not_mem_nil, or_false] at md
      rcases md with rfl | rfl | rfl | rfl
      · exact ⟨_, rfl, (tx.app t0).mono (by decide)⟩
      · exact ⟨_, rfl, (tx.app t5).mono (by decide)⟩
      · exact ⟨_, rfl, (tx.app tb).mono (by decide)⟩
      · exact ⟨_, rfl, (repla_tx (c := 32) tx tt).mono (by decide)⟩
    rintro ρ ⟨l, hl, hx, rfl⟩
    refine cut (fun ρ => ∃ l, l.length = 48 ∧ (∀ d ∈ l, txt d) ∧ ρ = [some s, some (.dat (.str w)), some (.dat (.lst l)), some (.dat (.int m))]) ?_ fun g hg => ?_
    rotate_left
    · simp
      have t0 : Tx 0 (("" : String) : Str) := by decide +kernel
      have zz : (w.length + 1) * (("" : String) : Str).length ≤ 101 * 0 := Nat.mul_le_mul (by have := tx.1; omega) t0.1
      have zw := tx.1
      refine ⟨by decide +kernel, by omega, by omega, by omega, ?_⟩
      refine hg _ ⟨_, by rw [List.length_append, hl]; rfl, txt_app hx fun d md => ?_, rfl⟩
      simp only [List.mem_cons, List.not_mem_nil, or_false] at md
      rcases md with rfl | rfl
      · exact ⟨_, rfl, (repla_tx (c := 45) tx t0).mono (by decide)⟩
      · exact ⟨_, rfl, (revS_tx tx).mono (by decide)⟩
    rintro ρ ⟨l, hl, hx, rfl⟩
    simp [cCoin]
    refine ⟨c', hs, by omega, by omega, sm_lt (by rw [hl]; decide), fun n s2 c2 n0 n1 hs2 hc2 => ?_⟩
    obtain ⟨k, rfl⟩ : ∃ k : Nat, n = k := ⟨n.toNat, by omega⟩
    have hk : k < l.length := by omega
    obtain ⟨x, ex, tx2⟩ := hx _ (List.getElem_mem hk)
    refine ⟨_, atI_nat hk, ?_⟩
    rw [ex]
    exact q _ _ _ tx2 hs2 (by omega)
theorem b__law_odd_one {k : Nat} {C : Ctr} (G : FnG P w K mg base CX0 k f fd (["purse", "wording"] : List Str) (spD K C)) (F : FunD K "_law_odd_one" "_law_odd_one" (defArgs s__law_odd_one) (defBody s__law_odd_one) (defScope s__law_odd_one) [] [] f fd) (hm : mg "_law_odd_one" = some (.ref f)) : Hs P w K mg base "_law_odd_one" (["purse", "wording"] : List Str) k C := by
  refine hsF G hm F ?_
  intro kV doc pm an cdv ct us hl
  match us, hl with
  | [u0, u1], _ => rfl

theorem g__law_marred_one (F : FunD K "_law_marred_one" "_law_marred_one" (defArgs s__law_marred_one) (defBody s__law_marred_one) (defScope s__law_marred_one) [] [] f fd)  (h__law_coin : Hs P w K mg base "_law_coin" ["purse", "many"] 1 cCoin) (h__law_odd_one : Hs P w K mg base "_law_odd_one" ["purse", "wording"] 2 cOddP) (m_len : mg "len" = none) :
    FnG P w K mg base CX0 (3) f fd (["purse", "wording"] : List Str) (spD K cMarP) := by
  have S : FnScope (["purse", "wording", "spot", "way", "wide", "signs", "sign_now", "between", "pieces_now", "left", "right", "piece"] : List Str) (["purse", "wording"] : List Str) (defScope s__law_marred_one) := ⟨rfl, rfl, rfl, by decide +kernel, rfl, by decide +kernel, by decide +kernel⟩
  have nd : (["purse", "wording", "spot", "way", "wide", "signs", "sign_now", "between", "pieces_now", "left", "right", "piece"] : List Str).Nodup := by decide +kernel
  refine okF (k := 2) [0] F S (fun cdv A outer s H E hr => (ss_cons (s_par (i := 2) (j := 3) rfl nd (g_cons (ve (ev (e_call h__law_coin (hr.mono (by omega)) (a_ref 0 (pv 0) rfl (a_val (ve (p_add (vo (p_len m_len (os_cons (n_o 1 (pv 1) rfl) os_nil))) (vo c_int))) a_nil))))) (g_cons (ve (ev (e_call h__law_coin (hr.mono (by omega)) (a_ref 0 (pv 0) rfl (a_val (ve c_int) a_nil))))) g_nil)))
    (ss_cons (s_set (i := 4) nd (ve c_str))
    (ss_cons (s_set (i := 5) nd (ve (v_ix (vo (ev (e_lst (g_cons (ve c_str) (g_cons (ve (n_v 4 (pv 4) rfl)) g_nil))))) (vo (ev (e_call h__law_coin (hr.mono (by omega)) (a_ref 0 (pv 0) rfl (a_val (ve c_int) a_nil))))))))
    (ss_cons (s_set (i := 6) nd (ve (v_ix (n_o 5 (pv 5) rfl) (vo (ev (e_call h__law_coin (hr.mono (by omega)) (a_ref 0 (pv 0) rfl (a_val (ve (p_len m_len (os_cons (n_o 5 (pv 5) rfl) os_nil))) a_nil))))))))
    (ss_cons (s_if (q_eq hr.r (n_o 3 (pv 3) rfl) (vo c_int)) (ss_one (s_ret (e_add (e_add (ve (v_slS (n_o 1 (pv 1) rfl) s_none (s_some (n_o 2 (pv 2) rfl)))) (ve (n_v 6 (pv 6) rfl))) (ve (v_slS (n_o 1 (pv 1) rfl) (s_some (n_o 2 (pv 2) rfl)) s_none))))) ss_nil)
    (ss_cons (s_if (q_eq hr.r (n_o 3 (pv 3) rfl) (vo c_int)) (ss_one (s_ret (e_add (ve (v_slS (n_o 1 (pv 1) rfl) s_none (s_some (n_o 2 (pv 2) rfl)))) (ve (v_slS (n_o 1 (pv 1) rfl) (s_some (vo (p_add (n_o 2 (pv 2) rfl) (vo c_int)))) s_none))))) ss_nil)
    (ss_cons (s_if (q_eq hr.r (n_o 3 (pv 3) rfl) (vo c_int)) (ss_one (s_ret (e_add (e_add (ve (v_slS (n_o 1 (pv 1) rfl) s_none (s_some (n_o 2 (pv 2) rfl)))) (ve (n_v 6 (pv 6) rfl))) (ve (v_slS (n_o 1 (pv 1) rfl) (s_some (vo (p_add (n_o 2 (pv 2) rfl) (vo c_int)))) s_none))))) ss_nil)
    (ss_cons (s_if (q_eq hr.r (n_o 3 (pv 3) rfl) (vo c_int)) (ss_one (s_ret (e_call h__law_odd_one (hr.mono (by omega)) (a_ref 0 (pv 0) rfl (a_val (ve (n_v 1 (pv 1) rfl)) a_nil))))) ss_nil)
    (ss_cons (s_if (q_in (n_o 3 (pv 3) rfl) (vo (v_tup (g_cons (ve c_int) (g_cons (ve c_int) g_nil))))) (ss_cons (s_set (i := 7) nd (ve (v_ix (vo (ev (e_lst (g_cons (ve c_str) (g_cons (ve c_str) g_nil))))) (vo (p_sub (n_o 3 (pv 3) rfl) (vo c_int))))))
    (ss_cons (s_set (i := 8) nd (e_split (n_o 1 (pv 1) rfl) (n_o 7 (pv 7) rfl)))
    (ss_cons (s_par (i := 9) (j := 10) rfl nd (g_cons (ve (ev (e_call h__law_coin (hr.mono (by omega)) (a_ref 0 (pv 0) rfl (a_val (ve (p_len m_len (os_cons (n_o 8 (pv 8) rfl) os_nil))) a_nil))))) (g_cons (ve (ev (e_call h__law_coin (hr.mono (by omega)) (a_ref 0 (pv 0) rfl (a_val (ve (p_len m_len (os_cons (n_o 8 (pv 8) rfl) os_nil))) a_nil))))) g_nil)))
    (ss_cons (s_set (i := 11) nd (ve (v_ix (n_o 8 (pv 8) rfl) (n_o 9 (pv 9) rfl))))
    (ss_cons (s_setit 8 (pv 8) rfl (v_ix (n_o 8 (pv 8) rfl) (n_o 10 (pv 10) rfl)) (n_o 9 (pv 9) rfl))
    (ss_cons (s_setit 8 (pv 8) rfl (n_v 11 (pv 11) rfl) (n_o 10 (pv 10) rfl))
    (ss_one (s_ret (ve (v_join (n_o 7 (pv 7) rfl) (vo (ev (n_mv 8 (pv 8) rfl))))))))))))) ss_nil)
    (ss_one (s_ret (ve (n_v 1 (pv 1) rfl)))))))))))))) ?_ rfl ?_
  · rintro as Q ⟨s, c, w, rfl, _⟩; rfl
  · rintro as Q ⟨s0, c0, w, rfl, hs0, hc0, tx, q⟩
    have hw := tx.1
    refine cut (fun ρ => ∃ (s : SV) (c : Nat) (a b : Int), Sk c s ∧ c ≤ c0 + 2 ∧ 0 ≤ a ∧ 0 ≤ b ∧ a ≤ w.length ∧ b < 8 ∧ ρ = [some s, some (.dat (.str w)), some (.dat (.int a)), some (.dat (.int b)), none, none, none, none, none, none, none, none]) ?_ fun g hg => ?_
    rotate_left
    · simp
      refine ⟨by omega, s0, c0, _, rfl, hs0, by omega, by omega, sm_of (b := 101) (by omega) (by omega), fun a s1 c1 a0 a1 hs1 hc1 => ?_⟩
      simp
      refine ⟨s1, c1, 8, rfl, hs1, by omega, by decide, sm_lt (m := 8) (by decide), fun b s2 c2 b0 b1 hs2 hc2 => ?_⟩
      exact hg _ ⟨s2, c2, a, b, hs2, by omega, a0, b0, by omega, b1, rfl⟩
    rintro ρ ⟨s1, c1, a, b, hs1, hc1, a0, b0, a1, b1, rfl⟩
    refine cut (fun ρ => ∃ wide, Tx 200 wide ∧ 0 < wide.length ∧ ρ = [some s1, some (.dat (.str w)), some (.dat (.int a)), some (.dat (.int b)), some (.dat (.str wide)), none, none, none, none, none, none, none]) ?_ fun g hg => ?_
    rotate_left
    · simp
      exact hg _ ⟨_, by decide +kernel, by decide +kernel, rfl⟩
    rintro ρ ⟨wide, twd, hwd, rfl⟩
    refine cut (fun ρ => ∃ (s : SV) (c : Nat) (sg : Str), Sk c s ∧ c ≤ c0 + 3 ∧ Tx 200 sg ∧ 0 < sg.length ∧ ρ = [some s, some (.dat (.str w)), some (.dat (.int a)), some (.dat (.int b)), some (.dat (.str wide)), some (.dat (.str sg)), none, none, none, none, none, none]) ?_ fun g hg => ?_
    rotate_left
    · simp
      refine ⟨s1, c1, 2, rfl, hs1, by omega, by decide, sm_lt (m := 2) (by decide), fun n s c n0 n1 hs hc => ?_⟩
      simp
      have : n = 0 ∨ n = 1 := by omega
      rcases this with rfl | rfl
      · exact ⟨_, rfl, hg _ ⟨s, c, _, hs, by omega, by decide +kernel, by decide +kernel, rfl⟩⟩
      · exact ⟨_, rfl, hg _ ⟨s, c, wide, hs, by omega, twd, hwd, rfl⟩⟩
    rintro ρ ⟨s2, c2, sg, hs2, hc2, tsg, hsg, rfl⟩
    refine cut (fun ρ => ∃ (s : SV) (c : Nat) (z : Str), Sk c s ∧ c ≤ c0 + 4 ∧ Tx 1 z ∧ ρ = [some s, some (.dat (.str w)), some (.dat (.int a)), some (.dat (.int b)), some (.dat (.str wide)), some (.dat (.str sg)), some (.dat (.str z)), none, none, none, none, none]) ?_ fun g hg => ?_
    rotate_left
    · simp
      have hsl := tsg.1
      refine ⟨by omega, s2, c2, _, rfl, hs2, by omega, by omega, sm_of (b := 200) (by omega) (by omega), fun n s c n0 n1 hs hc => ?_⟩
      simp
      obtain ⟨k, rfl⟩ : ∃ k : Nat, n = k := ⟨n.toNat, by omega⟩
      have hk : k < sg.cps.toList.length := by rw [len_cps]; omega
      refine ⟨Nat.le_trans hsl (by decide), _, atI_nat hk, hg _ ⟨s, c, ⟨#[sg.cps.toList[k]]⟩, hs, by omega, ⟨Nat.le_refl 1, fun d m => ?_⟩, rfl⟩⟩
      have m : d = sg.cps.toList[k] := List.mem_singleton.mp m
      rw [m]
      exact tsg.2 _ (List.getElem_mem hk)
    rintro ρ ⟨s3, c3, z, hs3, hc3, tz, rfl⟩
    refine cut (fun ρ => ρ = [some s3, some (.dat (.str w)), some (.dat (.int a)), some (.dat (.int b)), some (.dat (.str wide)), some (.dat (.str sg)), some (.dat (.str z)), none, none, none, none, none]) ?_ fun g hg => ?_
    rotate_left
    · simp
      split
      · have t1 := cutS_tx (lo := none) (hi := some a) tx
        have t2 := cutS_tx (lo := some (a)) (hi := none) tx
        have tt := (t1.app tz).app t2
        have z1 := t1.1
        have z2 := t2.1
        have z3 := tz.1
        have z4 := (t1.app tz).1
        exact ⟨by omega, by omega, by omega, by omega, q _ _ _ (tt.mono (by decide)) hs3 (by omega)⟩
      · exact hg _ rfl
    rintro ρ rfl
    refine cut (fun ρ => ρ = [some s3, some (.dat (.str w)), some (.dat (.int a)), some (.dat (.int b)), some (.dat (.str wide)), some (.dat (.str sg)), some (.dat (.str z)), none, none, none, none, none]) ?_ fun g hg => ?_
    rotate_left
    · simp
      split
      · have t1 := cutS_tx (lo := none) (hi := some a) tx
        have t2 := cutS_tx (lo := some (a + 1)) (hi := none) tx
        have z1 := t1.1
        have z2 := t2.1
        exact ⟨by omega, by omega, q _ _ _ ((t1.app t2).mono (by decide)) hs3 (by omega)⟩
      · exact hg _ rfl
    rintro ρ rfl
    refine cut (fun ρ => ρ = [some s3, some (.dat (.str w)), some (.dat (.int a)), some (.dat (.int b)), some (.dat (.str wide)), some (.dat (.str sg)), some (.dat (.str z)), none, none, none, none, none]) ?_ fun g hg => ?_
    rotate_left
    · simp
      split
      · have t1 := cutS_tx (lo := none) (hi := some a) tx
        have t2 := cutS_tx (lo := some (a + 1)) (hi := none) tx
        have tt := (t1.app tz).app t2
        have z1 := t1.1
        have z2 := t2.1
        have z3 := tz.1
        have z4 := (t1.app tz).1
        exact ⟨by omega, by omega, by omega, by omega, q _ _ _ (tt.mono (by decide)) hs3 (by omega)⟩
      · exact hg _ rfl
    rintro ρ rfl
    refine cut (fun ρ => ρ = [some s3, some (.dat (.str w)), some (.dat (.int a)), some (.dat (.int b)), some (.dat (.str wide)), some (.dat (.str sg)), some (.dat (.str z)), none, none, none, none, none]) ?_ fun g hg => ?_
    rotate_left
    · simp
      split
      · refine ⟨s3, c3, w, rfl, hs3, by omega, tx, fun w' s' c' tw hs hc => ?_⟩
        simp
        exact q _ _ _ tw hs (by omega)
      · exact hg _ rfl
    rintro ρ rfl
    refine cut (fun ρ => ρ = [some s3, some (.dat (.str w)), some (.dat (.int a)), some (.dat (.int b)), some (.dat (.str wide)), some (.dat (.str sg)), some (.dat (.str z)), none, none, none, none, none]) ?_ fun g hg => ?_
    rotate_left
    · by_cases hb : b = 4 ∨ b = 5
      · refine if_go true (fun Q hQ => ?_) ?_
        · simp
          exact ⟨[4, 5], rfl, by rw [decide_eq_true (by simpa using hb)]; exact hQ⟩
        rw [if_pos rfl]
        refine cut (fun ρ => ∃ cc : Nat, cc < 128 ∧ ρ = [some s3, some (.dat (.str w)), some (.dat (.int a)), some (.dat (.int b)), some (.dat (.str wide)), some (.dat (.str sg)), some (.dat (.str z)), some (.dat (.str ⟨#[cc]⟩)), none, none, none, none]) ?_ fun g2 hg2 => ?_
        rotate_left
        · rcases hb with rfl | rfl
          · simp
            exact hg2 _ ⟨32, by decide, rfl⟩
          · simp
            exact hg2 _ ⟨45, by decide, rfl⟩
        rintro ρ ⟨cc, hcc, rfl⟩
        refine cut (fun ρ => ∃ ps : List Str, 1 ≤ ps.length ∧ ps.length ≤ 102 ∧ (∀ p ∈ ps, Tx 100 p) ∧ ρ = [some s3, some (.dat (.str w)), some (.dat (.int a)), some (.dat (.int b)), some (.dat (.str wide)), some (.dat (.str sg)), some (.dat (.str z)), some (.dat (.str ⟨#[cc]⟩)), some (.own (ps.map fun p => .dat (.str p))), none, none, none]) ?_ fun g2 hg2 => ?_
        rotate_left
        · simp
          refine ⟨by simp [Str.length], by omega, hg2 _ ⟨_, split_pos _ _, Nat.le_trans (split_le _ _) (by omega), fun p m => split1_tx tx m, rfl⟩⟩
        rintro ρ ⟨ps, p1, p2, pt, rfl⟩
        refine cut (fun ρ => ∃ (s : SV) (c j k : Nat), Sk c s ∧ c ≤ c0 + 6 ∧ j < ps.length ∧ k < ps.length ∧ ρ = [some s, some (.dat (.str w)), some (.dat (.int a)), some (.dat (.int b)), some (.dat (.str wide)), some (.dat (.str sg)), some (.dat (.str z)), some (.dat (.str ⟨#[cc]⟩)), some (.own (ps.map fun p => .dat (.str p))), some (.dat (.int j)), some (.dat (.int k)), none]) ?_ fun g2 hg2 => ?_
        rotate_left
        · simp
          refine ⟨s3, c3, _, rfl, hs3, by omega, by omega, sm_of (b := 102) (by omega) (by omega), fun n1 s4 c4 n10 n11 hs4 hc4 => ?_⟩
          simp
          refine ⟨s4, c4, _, rfl, hs4, by omega, by omega, sm_of (b := 102) (by omega) (by omega), fun n2 s5 c5 n20 n21 hs5 hc5 => ?_⟩
          obtain ⟨j, rfl⟩ : ∃ j : Nat, n1 = j := ⟨n1.toNat, by omega⟩
          obtain ⟨k, rfl⟩ : ∃ k : Nat, n2 = k := ⟨n2.toNat, by omega⟩
          exact hg2 _ ⟨s5, c5, j, k, hs5, by omega, by omega, by omega, rfl⟩
        rintro ρ ⟨s, c, j, k, hs, hc, hj, hk, rfl⟩
        refine cut (fun ρ => ρ = [some s, some (.dat (.str w)), some (.dat (.int a)), some (.dat (.int b)), some (.dat (.str wide)), some (.dat (.str sg)), some (.dat (.str z)), some (.dat (.str ⟨#[cc]⟩)), some (.own (ps.map fun p => .dat (.str p))), some (.dat (.int j)), some (.dat (.int k)), some (.dat (.str ps[j]))]) ?_ fun g2 hg2 => ?_
        rotate_left
        · simp
          refine ⟨.str ps[j], ?_, hg2 _ rfl⟩
          rw [atI_nat (by simpa using hj)]
          simp
        rintro ρ rfl
        simp
        have ef : (SV.data ∘ fun p => SV.dat (DD.str p)) = DD.str := funext fun p => data_dat _
        have tt : ∀ p ∈ (ps.set j ps[k]).set k ps[j], Tx 100 p := fun p m => by
          rcases List.mem_or_eq_of_mem_set m with m | rfl
          · rcases List.mem_or_eq_of_mem_set m with m | rfl
            · exact pt p m
            · exact pt _ (List.getElem_mem hk)
          · exact pt _ (List.getElem_mem hj)
        obtain ⟨t1, t2⟩ := join_swap hcc (by simpa using p2) tt
        refine ⟨.str ps[k], by rw [atI_nat (by simpa using hk)]; simp, j, ixN_nat hj, k, ixN_nat hk, (ps.set j ps[k]).set k ps[j], ?_, t1, q _ _ _ t2 hs (by omega)⟩
        rw [ef, List.map_set, List.map_set]
      · refine if_go false (fun Q hQ => ?_) ?_
        · simp
          exact ⟨[4, 5], rfl, by rw [decide_eq_false (by simpa using hb)]; exact hQ⟩
        rw [if_neg (by decide)]
        exact hg _ rfl
    rintro ρ rfl
    simp
    exact q _ _ _ (tx.mono (by decide)) hs3 (by omega)
theorem b__law_marred_one {k : Nat} {C : Ctr} (G : FnG P w K mg base CX0 k f fd (["purse", "wording"] : List Str) (spD K C)) (F : FunD K "_law_marred_one" "_law_marred_one" (defArgs s__law_marred_one) (defBody s__law_marred_one) (defScope s__law_marred_one) [] [] f fd) (hm : mg "_law_marred_one" = some (.ref f)) : Hs P w K mg base "_law_marred_one" (["purse", "wording"] : List Str) k C := by
  refine hsF G hm F ?_
  intro kV doc pm an cdv ct us hl
  match us, hl with
  | [u0, u1], _ => rfl

theorem g__law_right (F : FunD K "_law_right" "_law_right" (defArgs s__law_right) (defBody s__law_right) (defScope s__law_right) [] [] f fd)  (h__law_coin : Hs P w K mg base "_law_coin" ["purse", "many"] 1 cCoin) (h__law_marred_one : Hs P w K mg base "_law_marred_one" ["purse", "wording"] 3 cMarP) (h__law_caught_one : Hs P w K mg base "_law_caught_one" ["wording", "way"] 4 cCaughtP) (h__law_polynomial_of : Hs P w K mg base "_law_polynomial_of" ["wording"] 2 cPolyOf) (m_range : mg "range" = none) (m_str : mg "str" = none) (m_len : mg "len" = none) :
    FnG P w K mg base CX0 (5) f fd (["purse"] : List Str) (spD K cRightP) := by
  have S : FnScope (["purse", "top", "numbers_here", "wording", "turn", "bent", "piece"] : List Str) (["purse"] : List Str) (defScope s__law_right) := ⟨rfl, rfl, rfl, by decide +kernel, rfl, by decide +kernel, by decide +kernel⟩
  have nd : (["purse", "top", "numbers_here", "wording", "turn", "bent", "piece"] : List Str).Nodup := by decide +kernel
  refine okF (k := 4) [0] F S (fun cdv A outer s H E hr => (ss_cons (s_set (i := 1) nd (ve (v_ix (vo (ev (e_lst (g_cons (ve c_int) (g_cons (ve c_int) (g_cons (ve (p_pow (vo c_int) (vo c_int))) g_nil)))))) (vo (ev (e_call h__law_coin (hr.mono (by omega)) (a_ref 0 (pv 0) rfl (a_val (ve c_int) a_nil))))))))
    (ss_cons (s_lcS (i := 2) (own := [("turn", 4)]) rfl nd (i_rg1 m_range (os_cons (vo (p_add (vo c_int) (vo (ev (e_call h__law_coin (hr.mono (by omega)) (a_ref 0 (pv 0) rfl (a_val (ve c_int) a_nil))))))) os_nil)) rfl (fun _ _ _ _ _ => (t_name (i := 4) nd)) (fun _ _ _ _ _ => ifs_nil) (fun _ _ _ _ _ => (ve (p_sub (vo (ev (e_call h__law_coin (hr.mono (by omega)) (a_ref 0 (pv 0) rfl (a_val (ve (p_add (vo (p_mul (vo c_int) (n_o 1 (pv 1) rfl))) (vo c_int))) a_nil))))) (n_o 1 (pv 1) rfl)))))
    (ss_cons (s_set (i := 3) nd (ve (v_join (vo c_str) (vo (ev (e_lc (own := [("piece", 6)]) rfl nd (i_lt (n_v 2 (pv 2) rfl)) rfl (fun _ _ _ _ _ => (t_name (i := 6) nd)) (fun _ _ _ _ _ => ifs_nil) (fun _ _ _ _ _ => (ve (p_strI m_str (os_cons (n_o 6 (pv 6) rfl) os_nil))))))))))
    (ss_cons (s_for PassesOwn.never rfl (i_rg1 m_range (os_cons (vo c_int) os_nil)) (t_name (i := 4) nd) (ss_cons (s_set (i := 5) nd (ve (ev (e_call h__law_marred_one (hr.mono (by omega)) (a_ref 0 (pv 0) rfl (a_val (ve (n_v 3 (pv 3) rfl)) a_nil))))))
    (ss_one (s_if (t_w (w_and (q_le (vo (p_len m_len (os_cons (n_o 5 (pv 5) rfl) os_nil))) (vo c_int)) (w_and1 (q_ne hr.r (vo (ev (e_call h__law_caught_one (hr.mono (by omega)) (a_val (ve (n_v 5 (pv 5) rfl)) (a_val (ve (p_div (n_o 4 (pv 4) rfl) (vo c_int))) a_nil))))) (vo (ev (e_call h__law_polynomial_of (hr.mono (by omega)) (a_val (ve (n_v 5 (pv 5) rfl)) a_nil)))))))) (ss_one (s_ret (ve c_bl))) ss_nil))))
    (ss_one (s_ret (ve c_bl)))))))) ?_ rfl ?_
  · rintro as Q ⟨s, c, rfl, _⟩; rfl
  · rintro as Q ⟨s0, c0, rfl, hs0, hc0, q⟩
    refine cut (fun ρ => ∃ (s : SV) (c : Nat) (t : Int), Sk c s ∧ c ≤ c0 + 1 ∧ 3 ≤ t ∧ t ≤ 1000000 ∧ ρ = [some s, some (.dat (.int t)), none, none, none, none, none]) ?_ fun g hg => ?_
    rotate_left
    · simp
      refine ⟨s0, c0, 3, rfl, hs0, by omega, by decide, sm_lt (m := 3) (by decide), fun n s c n0 n1 hs hc => ?_⟩
      simp
      have : n = 0 ∨ n = 1 ∨ n = 2 := by omega
      rcases this with rfl | rfl | rfl
      · exact ⟨_, rfl, hg _ ⟨s, c, 3, hs, hc, by decide, by decide, rfl⟩⟩
      · exact ⟨_, rfl, hg _ ⟨s, c, 12, hs, hc, by decide, by decide, rfl⟩⟩
      · exact ⟨_, rfl, hg _ ⟨s, c, 1000000, hs, hc, by decide, by decide, rfl⟩⟩
    rintro ρ ⟨s1, c1, t, hs1, hc1, t0, t1, rfl⟩
    refine cut (fun ρ => ∃ (s : SV) (c : Nat) (l : List Int), Sk c s ∧ c ≤ c0 + 20 ∧ l.length ≤ 8 ∧ (∀ n ∈ l, Sm 20 n) ∧ ρ = [some s, some (.dat (.int t)), some (.dat (dI l)), none, none, none, none]) ?_ fun g hg => ?_
    rotate_left
    · simp
      refine ⟨s1, c1, 8, rfl, hs1, by omega, by decide, sm_lt (m := 8) (by decide), fun k s c n0 n1 hs hc => ?_⟩
      simp
      refine ⟨by omega, by omega, ?_⟩
      refine lc_inv (fun i acc ρ => ∃ (s' : SV) (c' : Nat) (l : List Int), l.length = i ∧ acc = l.map (fun n => SV.dat (.int n)) ∧ (∀ n ∈ l, Sm 20 n) ∧ Sk c' s' ∧ c' ≤ c0 + 2 + i ∧ ρ = [some s', some (.dat (.int t)), none, none, none, none, none]) ?_ ?_ ?_
      · exact ⟨s, c, [], rfl, rfl, by simp, hs, by omega, rfl⟩
      · rintro i d acc ρ hi ⟨s', c', l, li, rfl, sm, hs', hc', rfl⟩
        have il : i < 8 := by
          have := (List.getElem?_eq_some_iff.mp hi).1
          simp [rgD] at this
          omega
        simp [plainB, wipeR, unwipe, cCoin]
        refine ⟨(sm_of (k := 10) (b := 2) (by decide) (by decide)).ok (sm_of (k := 20) (b := 1000000) (by omega) (by omega)), c', hs', by omega, by omega, sm_of (b := 2000001) (by omega) (by omega), fun n s2 c2 n0 n1 hs2 hc2 => ⟨by omega, s2, c2, l ++ [n - t], by simp [li], by simp, fun z m => ?_, hs2, by omega, rfl⟩⟩
        rcases List.mem_append.mp m with m | m
        · exact sm z m
        · rw [List.mem_singleton.mp m]
          exact sm_of (b := 1000000) (by omega) (by omega)
      · rintro acc ρ ⟨s', c', l, li, rfl, sm, hs', hc', rfl⟩
        simp [rgD] at hc'
        have e : (SV.own (List.map (fun n => SV.dat (DD.int n)) l)).data = dI l := oI_data l
        rw [e]
        exact hg _ ⟨s', c', l, hs', by omega, by simp [rgD] at li; omega, sm, rfl⟩
    rintro ρ ⟨s2, c2, l, hs2, hc2, ll, lsm, rfl⟩
    refine cut (fun ρ => ∃ (w : Str), Tx 100 w ∧ ρ = [some s2, some (.dat (.int t)), some (.dat (dI l)), some (.dat (.str w)), none, none, none]) ?_ fun g hg => ?_
    rotate_left
    · simp
      refine ⟨_, rfl, ?_⟩
      refine lc_map shD ?_ ?_ ?_ ?_
      · rw [List.length_map]
        simp [sizeLine]
        omega
      · simp [plainB]
      · intro d hm R hR
        obtain ⟨n, m, rfl⟩ := List.mem_map.mp hm
        simp [wipeR, unwipe]
        exact ⟨Sm.log ((lsm n m).mono (by decide)) (by decide), hR⟩
      · refine ⟨_, .inl (shD_all l), ?_, ?_⟩
        · exact sh_size (by omega) fun n m => (lsm n m).mono (by decide)
        · exact hg _ ⟨_, join_tos ll lsm, rfl⟩
    rintro ρ ⟨w, tw, rfl⟩
    simp
    refine for_inv (fun i ρ => ∃ (s : SV) (c : Nat) (x4 x5 x6 : Option SV), Sk c s ∧ c ≤ c0 + 20 + 20 * i ∧ ρ = [some s, some (.dat (.int t)), some (.dat (dI l)), some (.dat (.str w)), x4, x5, x6]) ?_ ?_ ?_
    · exact ⟨s2, c2, none, none, none, hs2, by omega, rfl⟩
    · rintro i d ρ hi ⟨s, c, x4, x5, x6, hs, hc, rfl⟩
      have il : i < 8 := by
        have := (List.getElem?_eq_some_iff.mp hi).1
        simpa [rgD] using this
      simp
      refine ⟨s, c, w, rfl, hs, by omega, tw, fun w' s' c' tw' hs' hc' => ?_⟩
      simp
      have ed : d = .int i := by
        obtain ⟨h, e⟩ := List.getElem?_eq_some_iff.mp hi
        rw [← e]
        simp [rgD]
      have lw := tw'.1
      refine ⟨by omega, ?_⟩
      by_cases h3 : w'.length ≤ 3000
      · have tx : Tx 3000 w' := ⟨h3, tw'.2⟩
        refine .inr ⟨by omega, i, ed, (sm_of (k := 10) (b := 4) (by decide) (by decide)).pylong _, ?_⟩
        refine ⟨w', _, rfl, tx, fun r hr => ?_⟩
        refine ⟨_, rfl, w', rfl, tx, fun r2 hr2 => ?_⟩
        simp only [hr, hr2]
        exact ⟨okD_resD _, okD_resD _, .inl ⟨eqD_resD _, s', c', hs', by omega, _, _, _, rfl⟩⟩
      · exact .inl ⟨by omega, s', c', hs', by omega, rfl⟩
    · rintro ρ ⟨s, c, x4, x5, x6, hs, hc, rfl⟩
      simp
      simp [rgD] at hc
      exact q s c hs (by omega)
theorem b__law_right {k : Nat} {C : Ctr} (G : FnG P w K mg base CX0 k f fd (["purse"] : List Str) (spD K C)) (F : FunD K "_law_right" "_law_right" (defArgs s__law_right) (defBody s__law_right) (defScope s__law_right) [] [] f fd) (hm : mg "_law_right" = some (.ref f)) : Hs P w K mg base "_law_right" (["purse"] : List Str) k C := by
  refine hsF G hm F ?_
  intro kV doc pm an cdv ct us hl
  match us, hl with
  | [u0], _ => rfl

theorem g_law (F : FunD K "law" "law" (defArgs s_law) (defBody s_law) (defScope s_law) [] [] f fd)  (h__law_purse : Hs P w K mg base "_law_purse" ["script", "place"] 1 cSack) (h__law_right : Hs P w K mg base "_law_right" ["purse"] 5 cRightP) (m_range : mg "range" = none) (m_max : mg "max" = none) (m_min : mg "min" = none) (m_len : mg "len" = none) :
    FnG P w K mg base CX0 (6) f fd (["script"] : List Str) (spD K cLawS) := by
  have S : FnScope (["script", "spot", "purse", "turn"] : List Str) (["script"] : List Str) (defScope s_law) := ⟨rfl, rfl, rfl, by decide +kernel, rfl, by decide +kernel, by decide +kernel⟩
  have nd : (["script", "spot", "purse", "turn"] : List Str).Nodup := by decide +kernel
  refine okF (k := 5) [] F S (fun cdv A outer s H E hr => (ss_cons (s_for PassesOwn.never rfl (i_rg1 m_range (os_cons (vo (p_max rfl m_max (os_cons (vo c_int) (os_cons (vo (p_min rfl m_min (os_cons (vo c_int) (os_cons (vo (p_len m_len (os_cons (n_o 0 (pv 0) rfl) os_nil))) os_nil)))) os_nil)))) os_nil)) (t_name (i := 1) nd) (ss_cons (s_set (i := 2) nd (e_call h__law_purse (hr.mono (by omega)) (a_val (ve (n_v 0 (pv 0) rfl)) (a_val (ve (n_v 1 (pv 1) rfl)) a_nil))))
    (ss_one (s_for PassesOwn.never rfl (i_rg1 m_range (os_cons (vo c_int) os_nil)) (t_name (i := 3) nd) (ss_one (s_if (t_not (t_val (ev (e_call h__law_right (hr.mono (by omega)) (a_ref 2 (pv 2) rfl a_nil))))) (ss_one (s_ret (ve c_bl))) ss_nil))))))
    (ss_one (s_ret (ve c_bl))))) ?_ rfl ?_
  · rintro as Q ⟨ns, b, rfl, _⟩; rfl
  · rintro as Q ⟨ns, b, rfl, hn, hl, q⟩
    have en : (if (1 : Int) < (if (ns.length : Int) < 6 then (ns.length : Int) else 6) then (if (ns.length : Int) < 6 then (ns.length : Int) else 6) else 1) = ((max 1 (min 6 ns.length) : Nat) : Int) := by split <;> split <;> omega
    have walk : ∀ (D : DEnds), (∀ x1 x2 x3, D.nx [some (.dat (scr b ns)), x1, x2, x3]) → forB (gSet [] 1)
        (fSeq (fSet [] 2 (fCall cSack (aVal (vE (fVar 0)) (aVal (vE (fVar 1)) aNil))))
          (fFor (iRg1 (fCons (vO (fC (DD.int 2))) fNil)) (gSet [] 3)
            (fIf (fNot (fTst (eV (fCall cRightP (aRef 2 aNil))))) (fRet (vE (fC (DD.bl false)))) fNext)))
        (rgD 0 1 (max 1 (min 6 ns.length))) D [some (.dat (scr b ns)), none, none, none] := by
      intro D hD
      refine for_inv (fun i ρ => ∃ x1 x2 x3 : Option SV, ρ = [some (.dat (scr b ns)), x1, x2, x3]) ⟨none, none, none, rfl⟩ ?_ ?_
      · rintro i d ρ hd ⟨x1, x2, x3, rfl⟩
        obtain ⟨rfl, hi⟩ := rg_get hd
        simp [cSack]
        refine ⟨ns, i, (by cases b <;> simp), hn, by omega, fun s hs => ?_⟩
        refine for_inv (fun j ρ => ∃ (s : SV) (c : Nat) (x1 x3 : Option SV), Sk c s ∧ c ≤ 300 * j ∧ ρ = [some (.dat (scr b ns)), x1, some s, x3]) ⟨s, 0, _, x3, hs, by omega, rfl⟩ ?_ ?_
        · rintro j d ρ hd ⟨s, c, x1, x3, hs, hc, rfl⟩
          have hj : j < 2 := by
            have := (List.getElem?_eq_some_iff.mp hd).1
            simpa [rgD] using this
          simp [cRightP]
          exact ⟨c, hs, by omega, fun s' c' hs' hc' => ⟨s', c', hs', by omega, rfl⟩⟩
        · rintro ρ ⟨s, c, x1, x3, hs, hc, rfl⟩
          exact ⟨_, _, _, rfl⟩
      · rintro ρ ⟨x1, x2, x3, rfl⟩
        exact hD x1 x2 x3
    cases b <;> simp [en] <;> refine ⟨by omega, walk _ fun x1 x2 x3 => ?_⟩ <;> simpa using q
theorem b_law {k : Nat} {C : Ctr} (G : FnG P w K mg base CX0 k f fd (["script"] : List Str) (spD K C)) (F : FunD K "law" "law" (defArgs s_law) (defBody s_law) (defScope s_law) [] [] f fd) (hm : mg "law" = some (.ref f)) : Hs P w K mg base "law" (["script"] : List Str) k C := by
  refine hsF G hm F ?_
  intro kV doc pm an cdv ct us hl
  match us, hl with
  | [u0], _ => rfl

end
theorem facts {P : Program} {w : World} {K : PySem.W.Frag} {h : Heap} {mg : Str → Option Value} {f : Addr} (X : K.In h) (G : h.Ns mainGlobals mg) (hfa : mg ("law" : Str) = some (.ref f)) (cx : DL.SaysX fa fn tbs prs tbi xfi w K) :
    ∃ fd : FuncData, (∀ (s : Shared) (v : Value), BindsTo s fd ⟨[v], []⟩ [("script", v)]) ∧ ∀ base : Heap, K.In base → base.Ns mainGlobals mg → FnG P w K mg base CX0 6 f fd (["script"] : List Str) (spD K cLawS) := by
  have c : He.SaysD fa fn K := cx.t.d
  have kl : LimK K := cx.lim
  obtain ⟨fd__law_purse, F__law_purse⟩ := c.def_ 3 (d := d__law_purse) rfl
  obtain ⟨fd__law_coin, F__law_coin⟩ := c.def_ 4 (d := d__law_coin) rfl
  obtain ⟨fd_number_in, F_number_in⟩ := c.def_ 1 (d := d_number_in) rfl
  obtain ⟨fd_show_polynomial, F_show_polynomial⟩ := c.def_ 0 (d := d_show_polynomial) rfl
  obtain ⟨fd_read_polynomial, F_read_polynomial⟩ := c.def_ 2 (d := d_read_polynomial) rfl
  obtain ⟨fd__law_is_number, F__law_is_number⟩ := c.def_ 5 (d := d__law_is_number) rfl
  obtain ⟨fd__law_polynomial_of, F__law_polynomial_of⟩ := c.def_ 6 (d := d__law_polynomial_of) rfl
  obtain ⟨fd__law_caught_one, F__law_caught_one⟩ := c.def_ 7 (d := d__law_caught_one) rfl
  obtain ⟨fd__law_odd_one, F__law_odd_one⟩ := c.def_ 8 (d := d__law_odd_one) rfl
  obtain ⟨fd__law_marred_one, F__law_marred_one⟩ := c.def_ 9 (d := d__law_marred_one) rfl
  obtain ⟨fd__law_right, F__law_right⟩ := c.def_ 10 (d := d__law_right) rfl
  obtain ⟨fd_law, F_law⟩ := c.def_ 11 (d := d_law) rfl
  obtain ⟨fd_TankError_init, F_TankError_init⟩ := c.def_ 12 (d := d_TankError_init) rfl
  have n_TankError := He.glo_ok X G (c.fact 12 (f := .glo "TankError") rfl)
  have n_Unreadable := He.glo_ok X G (c.fact 14 (f := .glo "Unreadable") rfl)
  have n_InvalidPolynomial := He.glo_ok X G (c.fact 13 (f := .glo "InvalidPolynomial") rfl)
  have n__law_purse := He.glo_ok X G (c.fact 3 (f := .glo "_law_purse") rfl)
  have n__law_coin := He.glo_ok X G (c.fact 4 (f := .glo "_law_coin") rfl)
  have n_number_in := He.glo_ok X G (c.fact 1 (f := .glo "number_in") rfl)
  have n_show_polynomial := He.glo_ok X G (c.fact 0 (f := .glo "show_polynomial") rfl)
  have n_read_polynomial := He.glo_ok X G (c.fact 2 (f := .glo "read_polynomial") rfl)
  have n__law_is_number := He.glo_ok X G (c.fact 5 (f := .glo "_law_is_number") rfl)
  have n__law_polynomial_of := He.glo_ok X G (c.fact 6 (f := .glo "_law_polynomial_of") rfl)
  have n__law_caught_one := He.glo_ok X G (c.fact 7 (f := .glo "_law_caught_one") rfl)
  have n__law_odd_one := He.glo_ok X G (c.fact 8 (f := .glo "_law_odd_one") rfl)
  have n__law_marred_one := He.glo_ok X G (c.fact 9 (f := .glo "_law_marred_one") rfl)
  have n__law_right := He.glo_ok X G (c.fact 10 (f := .glo "_law_right") rfl)
  have n_law := He.glo_ok X G (c.fact 11 (f := .glo "law") rfl)
  have gs_DIGITS : ∃ u, mg "DIGITS" = some u ∧ RelV (.str "0123456789") u := (He.str_ok (X := X) (G := G) (c.fact 25 (f := .str "DIGITS" "0123456789") rfl)).elim fun t z => ⟨_, z, ⟨_, rfl⟩⟩
  have gs_MOST_DIGITS : ∃ u, mg "MOST_DIGITS" = some u ∧ RelV (.int 9) u := (He.int_ok (X := X) (G := G) (c.fact 26 (f := .int "MOST_DIGITS" 9) rfl)).elim fun t z => ⟨_, z, ⟨_, rfl⟩⟩
  have m_ValueError : mg "ValueError" = none := He.free_ok X G (c.fact 15 (f := .free "ValueError") rfl)
  have m_abs : mg "abs" = none := He.free_ok X G (c.fact 16 (f := .free "abs") rfl)
  have m_all : mg "all" = none := He.free_ok X G (c.fact 17 (f := .free "all") rfl)
  have m_int : mg "int" = none := He.free_ok X G (c.fact 18 (f := .free "int") rfl)
  have m_isinstance : mg "isinstance" = none := He.free_ok X G (c.fact 19 (f := .free "isinstance") rfl)
  have m_len : mg "len" = none := He.free_ok X G (c.fact 20 (f := .free "len") rfl)
  have m_max : mg "max" = none := He.free_ok X G (c.fact 21 (f := .free "max") rfl)
  have m_min : mg "min" = none := He.free_ok X G (c.fact 22 (f := .free "min") rfl)
  have m_range : mg "range" = none := He.free_ok X G (c.fact 23 (f := .free "range") rfl)
  have m_str : mg "str" = none := He.free_ok X G (c.fact 24 (f := .free "str") rfl)
  have e := hfa.symm.trans n_law
  cases e
  have b := FunD.bindsA (ps := ["script"]) F_law fun _ _ _ _ _ _ us hl => match us, hl with | [_], _ => rfl
  refine ⟨fd_law, fun s v => b s [v] rfl, fun base _ _ => ?_⟩
  have vV : PySem.W.findCls K (.type "ValueError") (.type "type") "__init__" = some (.val (.builtin "ValueError.__init__")) := by
    have t := cx.xf_ 0 rfl
    split at t
    · next n e => rw [e, of_decide_eq_true t]
    · cases t
  have F0_tank := g_TankError_init (P := P) (w := w) (mg := mg) (base := base) F_TankError_init m_ValueError vV
  have B_tank : Binds K fd_TankError_init (["self", "value"] : List Str) [] := FunD.bindsN (ps := (["self", "value"] : List Str)) F_TankError_init fun _ _ _ _ _ _ us hl => match us, hl with | [_, _], _ => rfl
  have xc_TankError : ∃ fI, XCl K (He.ga K "TankError") fI := ⟨_, xclB_ok (cx.xf_ 1 rfl)⟩
  have rz_TankError : Hraise P w K mg base (He.ga K "TankError") "TankError" := ⟨_, fd_TankError_init, n_TankError, xclB_ok (cx.xf_ 1 rfl), B_tank, F0_tank⟩
  have xc_Unreadable : ∃ fI, XCl K (He.ga K "Unreadable") fI := ⟨_, xclB_ok (cx.xf_ 2 rfl)⟩
  have rz_Unreadable : Hraise P w K mg base (He.ga K "Unreadable") "Unreadable" := ⟨_, fd_TankError_init, n_Unreadable, xclB_ok (cx.xf_ 2 rfl), B_tank, F0_tank⟩
  have xc_InvalidPolynomial : ∃ fI, XCl K (He.ga K "InvalidPolynomial") fI := ⟨_, xclB_ok (cx.xf_ 3 rfl)⟩
  have rz_InvalidPolynomial : Hraise P w K mg base (He.ga K "InvalidPolynomial") "InvalidPolynomial" := ⟨_, fd_TankError_init, n_InvalidPolynomial, xclB_ok (cx.xf_ 3 rfl), B_tank, F0_tank⟩
  have em_Unreadable_TankError : PySem.W.exmOne K (.ref (He.ga K "Unreadable")) (.ref (He.ga K "TankError")) = some true := of_decide_eq_true (cx.xf_ 4 rfl)
  have kn_Unreadable_InvalidPolynomial : PySem.W.kitOne K (.ref (He.ga K "Unreadable")) (.ref (He.ga K "InvalidPolynomial")) = some false := of_decide_eq_true (cx.xf_ 5 rfl)
  have kt_Unreadable_Unreadable : PySem.W.kitOne K (.ref (He.ga K "Unreadable")) (.ref (He.ga K "Unreadable")) = some true := of_decide_eq_true (cx.xf_ 6 rfl)
  have g0__law_purse := g__law_purse (P := P) (w := w) (mg := mg) (base := base) F__law_purse m_len m_int m_max m_abs
  have h__law_purse := b__law_purse g0__law_purse F__law_purse n__law_purse
  have g0__law_coin := g__law_coin (P := P) (w := w) (mg := mg) (base := base) F__law_coin m_int
  have h__law_coin := b__law_coin g0__law_coin F__law_coin n__law_coin
  have g0_number_in := g_number_in (P := P) (w := w) (mg := mg) (base := base) F_number_in m_all m_len m_int gs_DIGITS gs_MOST_DIGITS
  have h_number_in := b_number_in g0_number_in F_number_in n_number_in
  have g0_show_polynomial := g_show_polynomial (P := P) (w := w) (mg := mg) (base := base) F_show_polynomial m_str
  have h_show_polynomial := b_show_polynomial g0_show_polynomial F_show_polynomial n_show_polynomial
  have g0_read_polynomial := g_read_polynomial (P := P) (w := w) (mg := mg) (base := base) F_read_polynomial h_number_in h_show_polynomial
  have h_read_polynomial := b_read_polynomial g0_read_polynomial F_read_polynomial n_read_polynomial
  have gx0_read_polynomial := gx_read_polynomial (P := P) (w := w) (mg := mg) (base := base) (C_Unreadable := (He.ga K "Unreadable")) F_read_polynomial h_number_in h_show_polynomial rz_Unreadable
  have g0__law_is_number := g__law_is_number (P := P) (w := w) (mg := mg) (base := base) F__law_is_number m_len m_str m_int
  have h__law_is_number := b__law_is_number g0__law_is_number F__law_is_number n__law_is_number
  have g0__law_polynomial_of := g__law_polynomial_of (P := P) (w := w) (mg := mg) (base := base) F__law_polynomial_of h__law_is_number m_int
  have h__law_polynomial_of := b__law_polynomial_of g0__law_polynomial_of F__law_polynomial_of n__law_polynomial_of
  have hb_read_polynomial : Hb P w K mg base "read_polynomial" ["text"] 3 cReadP (xReadP (He.ga K "Unreadable")) := hbF (FnG.both g0_read_polynomial gx0_read_polynomial) n_read_polynomial F_read_polynomial fun _ _ _ _ _ _ us hl => match us, hl with | [_], _ => rfl
  have hbk_read_polynomial : HbK P w K mg base "read_polynomial" ["text"] ["text"] 3 cReadP (xReadP (He.ga K "Unreadable")) := ⟨_, _, n_read_polynomial, F_read_polynomial.kp, bndI_of (ps := (["text"] : List Str)) (ks := (["text"] : List Str)) F_read_polynomial fun _ _ _ _ _ _ us ws h1 h2 => match us, ws, (by have h3 : ws.length = 1 := h1; have h4 : us.length + ws.length = 1 := h2; omega : us.length = 0), h1 with | [], [_], _, _ => rfl, (FnG.both g0_read_polynomial gx0_read_polynomial)⟩
  have g0__law_caught_one := g__law_caught_one (P := P) (w := w) (mg := mg) (base := base) F__law_caught_one h_show_polynomial m_isinstance em_Unreadable_TankError xc_Unreadable kn_Unreadable_InvalidPolynomial kt_Unreadable_Unreadable hb_read_polynomial hbk_read_polynomial n_Unreadable n_InvalidPolynomial n_TankError
  have h__law_caught_one := b__law_caught_one g0__law_caught_one F__law_caught_one n__law_caught_one
  have g0__law_odd_one := g__law_odd_one (P := P) (w := w) (mg := mg) (base := base) F__law_odd_one h__law_coin m_len
  have h__law_odd_one := b__law_odd_one g0__law_odd_one F__law_odd_one n__law_odd_one
  have g0__law_marred_one := g__law_marred_one (P := P) (w := w) (mg := mg) (base := base) F__law_marred_one h__law_coin h__law_odd_one m_len
  have h__law_marred_one := b__law_marred_one g0__law_marred_one F__law_marred_one n__law_marred_one
  have g0__law_right := g__law_right (P := P) (w := w) (mg := mg) (base := base) F__law_right h__law_coin h__law_marred_one h__law_caught_one h__law_polynomial_of m_range m_str m_len
  have h__law_right := b__law_right g0__law_right F__law_right n__law_right
  exact g_law F_law h__law_purse h__law_right m_range m_max m_min m_len
end My
open PySem PySem.W PySem.Calls PyProof.Rows
theorem PySem.Challenge.cw_valvelevels_k55_polynomials_that_are_non_holds : PySem.Challenge.rw_valvelevels_k55_polynomials_that_are_non.Holds := by
  w_on; o_law
  refine HandSHeadRun.head_any (r := OpenLaw.row PySem.Challenge.rw_valvelevels_k55_polynomials_that_are_non) (q := view (OpenLaw.row PySem.Challenge.rw_valvelevels_k55_polynomials_that_are_non).prog [20]) (H := My.hk) (ob := My.ob) (M := 6000) (loose := My.loose) (d := HandSHeadRun.topDef (OpenLaw.row PySem.Challenge.rw_valvelevels_k55_polynomials_that_are_non).prog 20) (kwd := []) My.ob_eq
    (by kernel_rfl) (fun s => by kernel_rfl) My.run (by kernel_rfl) (by kernel_rfl) (by kernel_rfl) (by rfl) (by first | assumption | decide +kernel) (by decide +kernel) ⟨rfl, rfl, rfl, rfl, rfl, by decide +kernel⟩ ?hw ?hc
  case hw => w_witness2
  case hc =>
    refine DL.walk_ofG (l := PySem.Challenge.rw_valvelevels_k55_polynomials_that_are_non) (n := 63) (k := 6) (x := "script") rfl (by decide) (by kernel_rfl) ⟨⟨rfl, by decide, by decide⟩, rfl⟩ ?_
    intro w mg fa h Y G hmg0
    obtain ⟨K, KX, c⟩ := Y
    have hmg : mg ("law" : PySem.Str) = some (.ref fa) := by
      have e : (HandSHeadRun.topDef (OpenLaw.row PySem.Challenge.rw_valvelevels_k55_polynomials_that_are_non).prog 20).name = ("law" : PySem.Str) := by kernel_rfl
      rw [← e]
      exact hmg0
    obtain ⟨fd, hb, hF⟩ := My.facts (P := (PySem.Challenge.rw_valvelevels_k55_polynomials_that_are_non).prog) (w := w) KX G hmg c
    exact ⟨K, fd, DL.cLawS, KX, hb, fun _ _ z => z, hF⟩
