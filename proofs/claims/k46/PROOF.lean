import PyProof.Rows.All
import Wide.All
import OpenK.AllK
import Wide.FinOn
import KE.KStateDown
import Lean
import HandS.ForMost
import HandS.Exc
import HandS.WordsExc
import HandS.More
import HandS.Defaults
import HandS.Wide
import HandS.Zip
import HandS.IsInst
import HandS.Flow
import HandS.Style
import PyProof.ReprLen
import HandS.Head0
import HandS.Head1
import HandS.Head2
import HandS.HeadEnd
import HandS.HeadHook1
import HandS.HeadHook2
import HandS.EndBits
import HandS.Property
import HandS.SetFor
import HandS.Strs
import HandS.HeadHook3
import HandS.Star
import KE.GoesEnum
import HandS.TupAny
import HandS.ExcOwn
import HandS.ExcField
import HandS.ExcInit
import HandS.ExcIs
import HandS.TryMany
import PySem.Challenge.RW_valvelevels_k46_benches_led
set_option Elab.async false
set_option linter.all false
set_option maxRecDepth 100000
set_option maxHeartbeats 2000000
namespace DL
open PySem PySem.Spec PyProof.Rows L2

/-- plain data, instances of own classes among them -/
inductive DD where
  | non | bl (b : Bool) | int (i : Int) | str (x : Str) | lst (l : List DD) | tup (l : List DD) | obj (C : Addr) (fs : List (Str × DD)) | opq (v : V) | at_ (v : V) (d : DD) | klst (l : List DD) | exc (a dx C : Addr) (d : DD)

mutual
inductive Rq (K : PySem.W.Frag) (G : Hp) : V → DD → Prop
  | non : Rq K G .non .non
  | bl (b : Bool) : Rq K G (.bl b) (.bl b)
  | int (i : Int) : Rq K G (.int i) (.int i)
  | str (x : Str) : Rq K G (.str x) (.str x)
  | opq (v : V) : Rq K G v (.opq v)
  | lst {a : Addr} {xs : List V} {ds : List DD} : Rd G a (.lst xs) → RqA K G xs ds → Rq K G (.ref a) (.lst ds)
  | tup {a : Addr} {xs : List V} {ds : List DD} : SqT K G a xs → RqA K G xs ds → Rq K G (.ref a) (.tup ds)
  | obj {a C dx : Addr} {fs : List (Str × V)} {ds : List (Str × DD)} : G a = some (.ins C dx fs) → RqF K G fs ds → Rq K G (.ref a) (.obj C ds)
  | at_ {v : V} {d : DD} : Rq K G v d → Rq K G v (.at_ v d)
  | klst {a : Addr} {xs : List V} {ds : List DD} : SqL K (fun _ => none) a xs → RqA K G xs ds → Rq K G (.ref a) (.klst ds)
  | exc {a dx C : Addr} {v : V} {d : DD} : G dx = some (.xd [(("value" : Str), v)]) → Rq K G v d → Rq K G (.ref a) (.exc a dx C d)
inductive RqA (K : PySem.W.Frag) (G : Hp) : List V → List DD → Prop
  | nil : RqA K G [] []
  | cons {v : V} {vs : List V} {d : DD} {ds : List DD} : Rq K G v d → RqA K G vs ds → RqA K G (v :: vs) (d :: ds)
inductive RqF (K : PySem.W.Frag) (G : Hp) : List (Str × V) → List (Str × DD) → Prop
  | nil : RqF K G [] []
  | cons {f : Str} {v : V} {vs : List (Str × V)} {d : DD} {ds : List (Str × DD)} : Rq K G v d → RqF K G vs ds → RqF K G ((f, v) :: vs) ((f, d) :: ds)
end

def Sub (G H : Hp) : Prop := ∀ a o, G a = some o → H a = some o
theorem Sub.refl (G : Hp) : Sub G G := fun _ _ h => h
theorem Sub.trans {G H I : Hp} (a : Sub G H) (b : Sub H I) : Sub G I := fun x o h => b x o (a x o h)
theorem Sub.rd {G H : Hp} (s : Sub G H) {a : Addr} {u : HO} (h : Rd G a u) : Rd H a u := h.elim (fun h => .inl (s a _ h)) fun ⟨o, h⟩ => .inr ⟨o, s a _ h⟩
theorem Sub.l {K : PySem.W.Frag} {G H : Hp} (s : Sub G H) {a : Addr} {xs : List V} (h : SqL K G a xs) : SqL K H a xs := h.elim (fun h => .inl (s.rd h)) .inr
theorem Sub.t {K : PySem.W.Frag} {G H : Hp} (s : Sub G H) {a : Addr} {xs : List V} (h : SqT K G a xs) : SqT K H a xs := h.elim (fun h => .inl (s.rd h)) .inr
section
variable {K : PySem.W.Frag} {G H : Hp} (s : Sub G H)
mutual
theorem Rq.mono (s : Sub G H) : ∀ {v : V} {d : DD}, Rq K G v d → Rq K H v d
  | _, _, .non => .non
  | _, _, .bl b => .bl b
  | _, _, .int i => .int i
  | _, _, .str x => .str x
  | _, _, .opq v => .opq v
  | _, _, .lst h a => .lst (s.rd h) (RqA.mono s a)
  | _, _, .tup h a => .tup (s.t h) (RqA.mono s a)
  | _, _, .obj h a => .obj (s _ _ h) (RqF.mono s a)
  | _, _, .at_ h => .at_ (Rq.mono s h)
  | _, _, .klst h a => .klst h (RqA.mono s a)
  | _, _, .exc h a => .exc (s _ _ h) (Rq.mono s a)
theorem RqA.mono (s : Sub G H) : ∀ {v : List V} {d : List DD}, RqA K G v d → RqA K H v d
  | _, _, .nil => .nil
  | _, _, .cons a b => .cons (Rq.mono s a) (RqA.mono s b)
theorem RqF.mono (s : Sub G H) : ∀ {v : List (Str × V)} {d : List (Str × DD)}, RqF K G v d → RqF K H v d
  | _, _, .nil => .nil
  | _, _, .cons a b => .cons (Rq.mono s a) (RqF.mono s b)
end
end

mutual
def DD.py : DD → PyData
  | .non => .none
  | .bl b => .bool b
  | .int i => .int i
  | .str x => .str x
  | .lst l => .list (DD.pys l)
  | .tup l => .tuple (DD.pys l)
  | .obj _ _ => .none
  | .opq _ => .none
  | .at_ _ d => d.py
  | .klst l => .list (DD.pys l)
  | .exc _ _ _ _ => .none
def DD.pys : List DD → List PyData
  | [] => []
  | d :: r => d.py :: DD.pys r
end
mutual
def DD.pure : DD → Bool
  | .lst l => DD.pures l
  | .tup l => DD.pures l
  | .obj _ _ => false
  | .opq _ => false
  | .exc _ _ _ _ => false
  | .at_ _ d => d.pure
  | .klst l => DD.pures l
  | _ => true
def DD.pures : List DD → Bool
  | [] => true
  | d :: r => d.pure && DD.pures r
end
mutual
theorem Rq.dp {K : PySem.W.Frag} {G : Hp} : ∀ {v : V} {d : DD}, Rq K G v d → d.pure = true → Dp K G v d.py
  | _, _, .non, _ => .non
  | _, _, .bl b, _ => .bl b
  | _, _, .int i, _ => .int i
  | _, _, .str x, _ => .str x
  | _, _, .lst h a, p => .lst (.inl h) (RqA.dp a p)
  | _, _, .tup h a, p => .tup h (RqA.dp a p)
  | _, _, .at_ (v := v) (d := d) h, p => (Rq.dp (v := v) (d := d) h p : Dp K G v d.py)
  | _, _, .klst h a, p => .lst (Sub.l (G := fun _ => none) (fun _ _ z => by cases z) h) (RqA.dp a p)
theorem RqA.dp {K : PySem.W.Frag} {G : Hp} : ∀ {v : List V} {d : List DD}, RqA K G v d → DD.pures d = true → DpAll K G v (DD.pys d)
  | _, _, .nil, _ => .nil
  | _, _, .cons a b, p => .cons (Rq.dp a (by simp [DD.pures] at p; exact p.1)) (RqA.dp b (by simp [DD.pures] at p; exact p.2))
end
theorem RqA.length {K : PySem.W.Frag} {G : Hp} : ∀ {v : List V} {d : List DD}, RqA K G v d → v.length = d.length
  | _, _, .nil => rfl
  | _, _, .cons _ b => congrArg (· + 1) (RqA.length b)
theorem RqA.get {K : PySem.W.Frag} {G : Hp} : ∀ {v : List V} {d : List DD} {i : Nat} {x : DD}, RqA K G v d → d[i]? = some x → ∃ u, v[i]? = some u ∧ Rq K G u x
  | _, _, _, _, .nil, e => by simp at e
  | _, _, 0, _, .cons a _, e => by simp at e; subst e; exact ⟨_, rfl, a⟩
  | _, _, i + 1, _, .cons _ b, e => by
    obtain ⟨u, h1, h2⟩ := RqA.get (i := i) b (by simpa using e)
    exact ⟨u, by simpa using h1, h2⟩
theorem RqA.getV {K : PySem.W.Frag} {G : Hp} : ∀ {v : List V} {d : List DD} {i : Nat} {u : V}, RqA K G v d → v[i]? = some u → ∃ x, d[i]? = some x ∧ Rq K G u x
  | _, _, _, _, .nil, e => by simp at e
  | _, _, 0, _, .cons a _, e => by simp at e; subst e; exact ⟨_, rfl, a⟩
  | _, _, i + 1, _, .cons _ b, e => by
    obtain ⟨u, h1, h2⟩ := RqA.getV (i := i) b (by simpa using e)
    exact ⟨u, by simpa using h1, h2⟩
theorem RqA.append {K : PySem.W.Frag} {G : Hp} : ∀ {v w : List V} {d e : List DD}, RqA K G v d → RqA K G w e → RqA K G (v ++ w) (d ++ e)
  | _, _, _, _, .nil, h => h
  | _, _, _, _, .cons a b, h => .cons a (RqA.append b h)
theorem RqA.take {K : PySem.W.Frag} {G : Hp} : ∀ {v : List V} {d : List DD} (n : Nat), RqA K G v d → RqA K G (v.take n) (d.take n)
  | _, _, 0, _ => .nil
  | _, _, _ + 1, .nil => .nil
  | _, _, n + 1, .cons a b => .cons a (RqA.take n b)
theorem RqA.drop {K : PySem.W.Frag} {G : Hp} : ∀ {v : List V} {d : List DD} (n : Nat), RqA K G v d → RqA K G (v.drop n) (d.drop n)
  | _, _, 0, h => h
  | _, _, _ + 1, .nil => .nil
  | _, _, n + 1, .cons _ b => RqA.drop n b
theorem RqA.set {K : PySem.W.Frag} {G : Hp} {x : V} {y : DD} (r : Rq K G x y) : ∀ {v : List V} {d : List DD} (n : Nat), RqA K G v d → RqA K G (v.set n x) (d.set n y)
  | _, _, _, .nil => .nil
  | _, _, 0, .cons _ b => .cons r b
  | _, _, n + 1, .cons a b => .cons a (RqA.set r n b)
theorem RqA.reverse {K : PySem.W.Frag} {G : Hp} {v : List V} {d : List DD} (h : RqA K G v d) : RqA K G v.reverse d.reverse := by
  have aux : ∀ {v : List V} {d : List DD}, RqA K G v d → RqA K G v.reverse d.reverse := by
    intro v
    induction v with
    | nil => intro d h; cases h; exact .nil
    | cons x v ih =>
      intro d h
      cases h with
      | cons a b =>
        rw [List.reverse_cons, List.reverse_cons]
        exact RqA.append (ih b) (.cons a .nil)
  exact aux h

/-! ### trees of lists and instances that are held by one place alone -/
inductive SV where
  | dat (d : DD)
  | own (ts : List SV)
  | ob (C : Addr) (fs : List (Str × SV))
  | tp (ts : List SV)
abbrev Rho := List (Option SV)

mutual
def SV.data : SV → DD
  | .dat d => d
  | .own ts => .lst (SV.datas ts)
  | .ob C fs => .obj C (SV.dataF fs)
  | .tp ts => .tup (SV.datas ts)
def SV.datas : List SV → List DD
  | [] => []
  | t :: r => t.data :: SV.datas r
def SV.dataF : List (Str × SV) → List (Str × DD)
  | [] => []
  | (f, t) :: r => (f, t.data) :: SV.dataF r
end
theorem SV.datas_eq : ∀ ts : List SV, SV.datas ts = ts.map SV.data
  | [] => rfl
  | t :: r => by simp [SV.datas, SV.datas_eq r]

mutual
inductive OT (K : PySem.W.Frag) (G H : Hp) : V → SV → List Addr → Prop
  | dat {v : V} {d : DD} : Rq K G v d → OT K G H v (.dat d) []
  | own {a : Addr} {vs : List V} {ts : List SV} {fp : List Addr} : H a = some (.lst vs) → G a = none → OTs K G H vs ts fp → a ∉ fp → OT K G H (.ref a) (.own ts) (a :: fp)
  | ob {a C dx : Addr} {vs : List (Str × V)} {ts : List (Str × SV)} {fp : List Addr} : H a = some (.ins C dx vs) → H dx = some (.own a) → G a = none → G dx = none → OTf K G H vs ts fp → a ≠ dx → a ∉ fp → dx ∉ fp → OT K G H (.ref a) (.ob C ts) (a :: dx :: fp)
  | tp {a : Addr} {vs : List V} {ts : List SV} {fp : List Addr} : SqT K G a vs → OTs K G H vs ts fp → OT K G H (.ref a) (.tp ts) fp
inductive OTs (K : PySem.W.Frag) (G H : Hp) : List V → List SV → List Addr → Prop
  | nil : OTs K G H [] [] []
  | cons {v : V} {t : SV} {vs : List V} {ts : List SV} {f1 f2 : List Addr} : OT K G H v t f1 → OTs K G H vs ts f2 → (∀ a ∈ f1, a ∉ f2) → OTs K G H (v :: vs) (t :: ts) (f1 ++ f2)
inductive OTf (K : PySem.W.Frag) (G H : Hp) : List (Str × V) → List (Str × SV) → List Addr → Prop
  | nil : OTf K G H [] [] []
  | cons {f : Str} {v : V} {t : SV} {vs : List (Str × V)} {ts : List (Str × SV)} {f1 f2 : List Addr} : OT K G H v t f1 → OTf K G H vs ts f2 → (∀ a ∈ f1, a ∉ f2) → OTf K G H ((f, v) :: vs) ((f, t) :: ts) (f1 ++ f2)
end
section
variable {K : PySem.W.Frag} {G H G' H' : Hp}
mutual
theorem OT.mono (s : Sub G G') : ∀ {v : V} {t : SV} {fp : List Addr}, OT K G H v t fp → (∀ a ∈ fp, ∀ o, H a = some o → H' a = some o) → (∀ a ∈ fp, G' a = none) → OT K G' H' v t fp
  | _, _, _, .dat r, _, _ => .dat (r.mono s)
  | _, _, _, .own h g ts n, k, z => .own (k _ List.mem_cons_self _ h) (z _ List.mem_cons_self) (OTs.mono s ts (fun a m => k a (List.mem_cons_of_mem _ m)) fun a m => z a (List.mem_cons_of_mem _ m)) n
  | _, _, _, .ob h hd g gd ts ne n nd, k, z => .ob (k _ List.mem_cons_self _ h) (k _ (List.mem_cons_of_mem _ List.mem_cons_self) _ hd) (z _ List.mem_cons_self) (z _ (List.mem_cons_of_mem _ List.mem_cons_self))
      (OTf.mono s ts (fun a m => k a (List.mem_cons_of_mem _ (List.mem_cons_of_mem _ m))) fun a m => z a (List.mem_cons_of_mem _ (List.mem_cons_of_mem _ m))) ne n nd
  | _, _, _, .tp h ts, k, z => .tp (s.t h) (OTs.mono s ts k z)
theorem OTs.mono (s : Sub G G') : ∀ {v : List V} {t : List SV} {fp : List Addr}, OTs K G H v t fp → (∀ a ∈ fp, ∀ o, H a = some o → H' a = some o) → (∀ a ∈ fp, G' a = none) → OTs K G' H' v t fp
  | _, _, _, .nil, _, _ => .nil
  | _, _, _, .cons a b d, k, z => .cons (OT.mono s a (fun x m => k x (List.mem_append_left _ m)) fun x m => z x (List.mem_append_left _ m)) (OTs.mono s b (fun x m => k x (List.mem_append_right _ m)) fun x m => z x (List.mem_append_right _ m)) d
theorem OTf.mono (s : Sub G G') : ∀ {v : List (Str × V)} {t : List (Str × SV)} {fp : List Addr}, OTf K G H v t fp → (∀ a ∈ fp, ∀ o, H a = some o → H' a = some o) → (∀ a ∈ fp, G' a = none) → OTf K G' H' v t fp
  | _, _, _, .nil, _, _ => .nil
  | _, _, _, .cons a b d, k, z => .cons (OT.mono s a (fun x m => k x (List.mem_append_left _ m)) fun x m => z x (List.mem_append_left _ m)) (OTf.mono s b (fun x m => k x (List.mem_append_right _ m)) fun x m => z x (List.mem_append_right _ m)) d
end
mutual
theorem OT.here : ∀ {v : V} {t : SV} {fp : List Addr}, OT K G H v t fp → ∀ a ∈ fp, (∃ o, H a = some o) ∧ G a = none
  | _, _, _, .dat _, a, m => by cases m
  | _, _, _, .own h g ts _, a, m => by
    rcases List.mem_cons.mp m with e | m
    · subst e; exact ⟨⟨_, h⟩, g⟩
    · exact OTs.here ts a m
  | _, _, _, .ob h hd g gd ts _ _ _, a, m => by
    rcases List.mem_cons.mp m with e | m
    · subst e; exact ⟨⟨_, h⟩, g⟩
    · rcases List.mem_cons.mp m with e | m
      · subst e; exact ⟨⟨_, hd⟩, gd⟩
      · exact OTf.here ts a m
  | _, _, _, .tp h ts, a, m => OTs.here ts a m
theorem OTs.here : ∀ {v : List V} {t : List SV} {fp : List Addr}, OTs K G H v t fp → ∀ a ∈ fp, (∃ o, H a = some o) ∧ G a = none
  | _, _, _, .nil, a, m => by cases m
  | _, _, _, .cons x y _, a, m => (List.mem_append.mp m).elim (OT.here x a) (OTs.here y a)
theorem OTf.here : ∀ {v : List (Str × V)} {t : List (Str × SV)} {fp : List Addr}, OTf K G H v t fp → ∀ a ∈ fp, (∃ o, H a = some o) ∧ G a = none
  | _, _, _, .nil, a, m => by cases m
  | _, _, _, .cons x y _, a, m => (List.mem_append.mp m).elim (OT.here x a) (OTf.here y a)
end
/-- the standing part with some addresses more -/
def sealH (G H : Hp) (fp : List Addr) : Hp := fun a => if a ∈ fp then H a else G a
theorem sealH_sub {fp : List Addr} (n : ∀ a ∈ fp, G a = none) : Sub G (sealH G H fp) := fun a o h => by
  unfold sealH
  by_cases m : a ∈ fp
  · rw [n a m] at h; cases h
  · rw [if_neg m]; exact h
theorem sealH_in {fp : List Addr} {a : Addr} (m : a ∈ fp) : sealH G H fp a = H a := if_pos m
theorem sealH_out {fp : List Addr} {a : Addr} (m : a ∉ fp) : sealH G H fp a = G a := if_neg m
theorem sealH_nil : sealH G H [] = G := by funext a; unfold sealH; simp
mutual
theorem OT.sealed {F : Hp} (s : Sub G F) : ∀ {v : V} {t : SV} {fp : List Addr}, OT K G H v t fp → (∀ a ∈ fp, ∀ o, H a = some o → F a = some o) → Rq K F v t.data
  | _, _, _, .dat r, _ => r.mono s
  | _, _, _, .own h g ts n, k => .lst (.inl (k _ List.mem_cons_self _ h)) (OTs.sealed s ts fun a m => k a (List.mem_cons_of_mem _ m))
  | _, _, _, .ob h hd g gd ts _ _ _, k => .obj (k _ List.mem_cons_self _ h) (OTf.sealed s ts fun a m => k a (List.mem_cons_of_mem _ (List.mem_cons_of_mem _ m)))
  | _, _, _, .tp h ts, k => .tup (s.t h) (OTs.sealed s ts k)
theorem OTs.sealed {F : Hp} (s : Sub G F) : ∀ {v : List V} {t : List SV} {fp : List Addr}, OTs K G H v t fp → (∀ a ∈ fp, ∀ o, H a = some o → F a = some o) → RqA K F v (SV.datas t)
  | _, _, _, .nil, _ => .nil
  | _, _, _, .cons a b d, k => .cons (OT.sealed s a fun x m => k x (List.mem_append_left _ m)) (OTs.sealed s b fun x m => k x (List.mem_append_right _ m))
theorem OTf.sealed {F : Hp} (s : Sub G F) : ∀ {v : List (Str × V)} {t : List (Str × SV)} {fp : List Addr}, OTf K G H v t fp → (∀ a ∈ fp, ∀ o, H a = some o → F a = some o) → RqF K F v (SV.dataF t)
  | _, _, _, .nil, _ => .nil
  | _, _, _, .cons a b d, k => .cons (OT.sealed s a fun x m => k x (List.mem_append_left _ m)) (OTf.sealed s b fun x m => k x (List.mem_append_right _ m))
end
end
end DL

namespace DL
open PySem PySem.Spec PyProof.Rows L2

theorem OT.dat_inv {K : PySem.W.Frag} {G H : Hp} {v : V} {d : DD} {fp : List Addr} (h : OT K G H v (.dat d) fp) : Rq K G v d ∧ fp = [] := by
  generalize e : SV.dat d = t at h
  cases h with
  | dat r => injection e with e; subst e; exact ⟨r, rfl⟩
  | own => cases e
  | ob => cases e
  | tp => cases e
theorem OT.own_inv {K : PySem.W.Frag} {G H : Hp} {v : V} {ts : List SV} {fp : List Addr} (h : OT K G H v (.own ts) fp) : ∃ a vs f, v = .ref a ∧ fp = a :: f ∧ H a = some (.lst vs) ∧ G a = none ∧ OTs K G H vs ts f ∧ a ∉ f := by
  generalize e : SV.own ts = t at h
  cases h with
  | dat r => cases e
  | own h g o n => injection e with e; subst e; exact ⟨_, _, _, rfl, rfl, h, g, o, n⟩
  | ob => cases e
  | tp => cases e
theorem OT.ob_inv {K : PySem.W.Frag} {G H : Hp} {v : V} {C : Addr} {ts : List (Str × SV)} {fp : List Addr} (h : OT K G H v (.ob C ts) fp) :
    ∃ a dx vs f, v = .ref a ∧ fp = a :: dx :: f ∧ H a = some (.ins C dx vs) ∧ H dx = some (.own a) ∧ G a = none ∧ G dx = none ∧ OTf K G H vs ts f ∧ a ≠ dx ∧ a ∉ f ∧ dx ∉ f := by
  generalize e : SV.ob C ts = t at h
  cases h with
  | dat r => cases e
  | own => cases e
  | ob h1 h2 h3 h4 h5 h6 h7 h8 => injection e with e1 e2; subst e1 e2; exact ⟨_, _, _, _, rfl, rfl, h1, h2, h3, h4, h5, h6, h7, h8⟩
  | tp => cases e
theorem OT.tp_inv {K : PySem.W.Frag} {G H : Hp} {v : V} {ts : List SV} {fp : List Addr} (h : OT K G H v (.tp ts) fp) : ∃ a vs, v = .ref a ∧ SqT K G a vs ∧ OTs K G H vs ts fp := by
  generalize e : SV.tp ts = t at h
  cases h with
  | dat r => cases e
  | own => cases e
  | ob => cases e
  | tp h o => injection e with e; subst e; exact ⟨_, _, rfl, h, o⟩
def In (fp : Nat → List Addr) (a : Addr) : Prop := ∃ i, a ∈ fp i
/-- the slots and what they hold -/
structure Co (K : PySem.W.Frag) (G H : Hp) (σ : L2.St) (ρ : Rho) (fp : Nat → List Addr) : Prop where
  len : σ.length = ρ.length
  sub : Sub G H
  slot : ∀ (i : Nat) t, ρ[i]? = some (some t) → ∃ v, σ[i]? = some (some v) ∧ OT K G H v t (fp i)
  nil : ∀ i : Nat, (∀ t, ρ[i]? ≠ some (some t)) → fp i = []
  dis : ∀ (i j : Nat) a, a ∈ fp i → a ∈ fp j → i = j
/-- a step: O may change -/
structure Stp (O : Addr → Prop) (G H G' H' : Hp) : Prop where
  ex : Sub G G'
  keep : ∀ a o, ¬ O a → H a = some o → H' a = some o
  hid : ∀ a o, ¬ O a → H a = some o → G a = none → G' a = none
theorem Stp.refl {O : Addr → Prop} (G H : Hp) : Stp O G H G H := ⟨Sub.refl G, fun _ _ _ h => h, fun _ _ _ _ h => h⟩
theorem Stp.trans {O O' : Addr → Prop} {G H G1 H1 G2 H2 : Hp} (a : Stp O G H G1 H1) (b : Stp O' G1 H1 G2 H2) (h : ∀ x, O' x → O x ∨ H x = none) : Stp O G H G2 H2 := by
  have no : ∀ x o, ¬ O x → H x = some o → ¬ O' x := fun x o n e q => by
    rcases h x q with z | z
    · exact n z
    · rw [e] at z; cases z
  exact ⟨a.ex.trans b.ex, fun x o n e => b.keep x o (no x o n e) (a.keep x o n e), fun x o n e g => b.hid x o (no x o n e) (a.keep x o n e) (a.hid x o n e g)⟩
theorem Stp.sealed {O : Addr → Prop} {G H G' H' : Hp} {fr : List Addr} (a : Stp O G H G' H') (n : ∀ x ∈ fr, G' x = none) (h : ∀ x ∈ fr, H x = none ∨ O x) : Stp O G H (sealH G' H' fr) H' :=
  ⟨a.ex.trans (sealH_sub n), a.keep, fun x o nO e g => by
    have : x ∉ fr := fun m => by
      rcases h x m with z | z
      · rw [e] at z; cases z
      · exact nO z
    rw [sealH_out this]; exact a.hid x o nO e g⟩
/-- the entry of the def -/
structure Bs where
  vs : List V
  as : List SV
  io : List Nat
  G0 : Hp
  H0 : Hp
  fp0 : Nat → List Addr
  /-- a floor: what stands from some place on -/
  L : Hp
structure Rp (K : PySem.W.Frag) (B : Bs) (G H : Hp) (σ : L2.St) (ρ : Rho) (fp : Nat → List Addr) : Prop where
  co : Co K G H σ ρ fp
  stp : Stp (In B.fp0) B.G0 B.H0 G H
  own : ∀ a, In fp a → In B.fp0 a ∨ B.H0 a = none
  io : ∀ i ∈ B.io, ∃ v t, B.vs[i]? = some v ∧ σ[i]? = some (some v) ∧ ρ[i]? = some (some t)
  lo : Sub B.L G
structure Nxt (K : PySem.W.Frag) (B : Bs) (σ : L2.St) (G H : Hp) (fp : Nat → List Addr) (G' H' : Hp) (ρ' : Rho) (fp' : Nat → List Addr) : Prop where
  rp : Rp K B G' H' σ ρ' fp'
  st : Stp (In fp) G H G' H'
  inn : ∀ a, In fp' a → In fp a ∨ H a = none
section
variable {K : PySem.W.Frag} {B : Bs} {σ : L2.St} {G H G' H' G1 H1 G2 H2 : Hp} {ρ ρ' ρ1 ρ2 : Rho} {fp fp' fp1 fp2 : Nat → List Addr}
theorem Nxt.refl (R : Rp K B G H σ ρ fp) : Nxt K B σ G H fp G H ρ fp := ⟨R, Stp.refl G H, fun _ h => .inl h⟩
theorem Stp.fresh {O : Addr → Prop} (s : Stp O G H G1 H1) {a : Addr} (n : ¬ O a) (h : H1 a = none) : H a = none := by
  cases e : H a with
  | none => rfl
  | some o => have := s.keep a o n e; rw [h] at this; cases this
theorem Nxt.trans (a : Nxt K B σ G H fp G1 H1 ρ1 fp1) (b : Nxt K B σ G1 H1 fp1 G2 H2 ρ2 fp2) : Nxt K B σ G H fp G2 H2 ρ2 fp2 :=
  ⟨b.rp, a.st.trans b.st a.inn, fun x h => (b.inn x h).elim (fun h => a.inn x h) fun h => by
    by_cases m : In fp x
    · exact .inl m
    · exact .inr (a.st.fresh m h)⟩
theorem Co.here (c : Co K G H σ ρ fp) {a : Addr} (h : In fp a) : (∃ o, H a = some o) ∧ G a = none := by
  obtain ⟨i, m⟩ := h
  by_cases q : ∃ t, ρ[i]? = some (some t)
  · obtain ⟨t, q⟩ := q
    obtain ⟨v, _, ot⟩ := c.slot i t q
    exact ot.here a m
  · rw [c.nil i fun t e => q ⟨t, e⟩] at m; cases m
/-- new objects alone -/
theorem Co.grow (c : Co K G H σ ρ fp) (s : Sub G G') (k : ∀ a, In fp a → ∀ o, H a = some o → H' a = some o) (z : ∀ a, In fp a → G' a = none) (sub : Sub G' H') : Co K G' H' σ ρ fp :=
  ⟨c.len, sub, fun i t e => by
    obtain ⟨v, e1, ot⟩ := c.slot i t e
    exact ⟨v, e1, ot.mono s (fun a m o h => k a ⟨i, m⟩ o h) fun a m => z a ⟨i, m⟩⟩, c.nil, c.dis⟩
/-- an object that nothing held is laid, and stands or is held by a temporary -/
theorem Nxt.laid {p : Addr} {o : HO} (R : Rp K B G H σ ρ fp) (hp : H p = none) : Nxt K B σ G H fp G (upd H p o) ρ fp := by
  have ne : ∀ a, In fp a → a ≠ p := fun a m e => by
    obtain ⟨⟨o, h⟩, _⟩ := R.co.here m
    subst e; rw [hp] at h; cases h
  have kp : ∀ a u, H a = some u → upd H p o a = some u := fun a u e => by rw [upd_ne (ne_of_none e hp)]; exact e
  have st : Stp (In fp) G H G (upd H p o) := ⟨Sub.refl G, fun a u _ e => kp a u e, fun _ _ _ _ g => g⟩
  exact ⟨⟨R.co.grow (Sub.refl G) (fun a m u e => kp a u e) (fun a m => (R.co.here m).2) (fun a u e => kp a u (R.co.sub a u e)), R.stp.trans st R.own, R.own, R.io, R.lo⟩, st, fun _ h => .inl h⟩
/-- a temporary is sealed -/
theorem Nxt.sealed {v : V} {r : SV} {fr : List Addr} (R : Rp K B G H σ ρ fp) (n : Nxt K B σ G H fp G' H' ρ' fp') (ot : OT K G' H' v r fr) (h1 : ∀ a ∈ fr, ¬ In fp' a) (h2 : ∀ a ∈ fr, H a = none ∨ In fp a) :
    Nxt K B σ G H fp (sealH G' H' fr) H' ρ' fp' ∧ Rq K (sealH G' H' fr) v r.data := by
  have g0 : ∀ a ∈ fr, G' a = none := fun a m => (ot.here a m).2
  have sub : Sub (sealH G' H' fr) H' := fun a o e => by
    by_cases m : a ∈ fr
    · rw [sealH_in m] at e; exact e
    · rw [sealH_out m] at e; exact n.rp.co.sub a o e
  refine ⟨⟨⟨n.rp.co.grow (sealH_sub g0) (fun _ _ _ e => e) (fun a m => ?_) sub, n.rp.stp.sealed g0 fun a m => ?_, n.rp.own, n.rp.io, n.rp.lo.trans (sealH_sub g0)⟩, n.st.sealed g0 h2, n.inn⟩, ot.sealed (sealH_sub g0) fun a m o e => by rw [sealH_in m]; exact e⟩
  · rw [sealH_out fun z => h1 a z m]; exact (n.rp.co.here m).2
  · rcases h2 a m with z | z
    · by_cases q : In B.fp0 a
      · exact .inr q
      · exact .inl (R.stp.fresh q z)
    · exact (R.own a z).symm
/-- a new object that stands from now on -/
theorem Nxt.stand {p : Addr} {o : HO} (R : Rp K B G H σ ρ fp) (hp : H p = none) : Nxt K B σ G H fp (upd G p o) (upd H p o) ρ fp := by
  have gp : G p = none := by
    cases e : G p with
    | none => rfl
    | some u => have := R.co.sub _ _ e; rw [hp] at this; cases this
  have ne : ∀ a, In fp a → a ≠ p := fun a m e => by
    obtain ⟨⟨o, h⟩, _⟩ := R.co.here m
    subst e; rw [hp] at h; cases h
  have kp : ∀ a u, H a = some u → upd H p o a = some u := fun a u e => by rw [upd_ne (ne_of_none e hp)]; exact e
  have sg : Sub G (upd G p o) := fun a u e => by rw [upd_ne (ne_of_none e gp)]; exact e
  have st : Stp (In fp) G H (upd G p o) (upd H p o) := ⟨sg, fun a u _ e => kp a u e, fun a u _ e g => by rw [upd_ne (ne_of_none e hp)]; exact g⟩
  refine ⟨⟨R.co.grow sg (fun a m u e => kp a u e) (fun a m => by rw [upd_ne (ne a m)]; exact (R.co.here m).2) (fun a u e => ?_), R.stp.trans st R.own, R.own, R.io, R.lo.trans sg⟩, st, fun _ h => .inl h⟩
  by_cases q : a = p
  · subst q; rw [upd_same] at e ⊢; exact e
  · rw [upd_ne q] at e ⊢; exact R.co.sub a u e
end

/-! ### what an expression is worth -/
abbrev FE := Rho → (SV → Rho → Prop) → Prop
abbrev FV := Rho → (DD → Rho → Prop) → Prop
/-- an operand: data, or what a slot holds when it is looked at -/
inductive OV where
  | d (x : DD)
  | r (i : Nat)
abbrev FO := Rho → (OV → Rho → Prop) → Prop
abbrev FT := Rho → (Bool → Rho → Prop) → Prop
def OVR (K : PySem.W.Frag) (G : Hp) (σ : L2.St) (v : V) : OV → Prop
  | .d x => Rq K G v x
  | .r i => σ[i]? = some (some v)
@[simp] def resT (ρ : Rho) : OV → Option SV
  | .d x => some (.dat x)
  | .r i => ρ[i]?.join
@[simp] def resD (ρ : Rho) (o : OV) : Option DD := (resT ρ o).map SV.data
@[simp] theorem resT_d (ρ : Rho) (x : DD) : resT ρ (.d x) = some (.dat x) := rfl
@[simp] theorem resT_r (ρ : Rho) (i : Nat) : resT ρ (.r i) = ρ[i]?.join := rfl
@[simp] theorem data_dat (d : DD) : (SV.dat d).data = d := by simp [SV.data]

def DE (K : PySem.W.Frag) (io : List Nat) (te : TE) (fe : FE) : Prop := ∀ (B : Bs) G H σ ρ fp (Qd : SV → Rho → Prop) (Q : VK), B.io = io → Rp K B G H σ ρ fp → fe ρ Qd →
  (∀ r ρ' v G' H' fp' fr, Nxt K B σ G H fp G' H' ρ' fp' → OT K G' H' v r fr → (∀ a ∈ fr, ¬ In fp' a) → (∀ a ∈ fr, H a = none ∨ In fp a) → Qd r ρ' → Q v H') → te σ H Q
def DV (K : PySem.W.Frag) (io : List Nat) (te : TE) (fv : FV) : Prop := ∀ (B : Bs) G H σ ρ fp (Qd : DD → Rho → Prop) (Q : VK), B.io = io → Rp K B G H σ ρ fp → fv ρ Qd →
  (∀ d ρ' v G' H' fp', Nxt K B σ G H fp G' H' ρ' fp' → Rq K G' v d → Qd d ρ' → Q v H') → te σ H Q
def DO (K : PySem.W.Frag) (io : List Nat) (te : TE) (fo : FO) : Prop := ∀ (B : Bs) G H σ ρ fp (Qd : OV → Rho → Prop) (Q : VK), B.io = io → Rp K B G H σ ρ fp → fo ρ Qd →
  (∀ o ρ' v G' H' fp', Nxt K B σ G H fp G' H' ρ' fp' → OVR K G' σ v o → Qd o ρ' → Q v H') → te σ H Q
def DT (K : PySem.W.Frag) (io : List Nat) (tt : TT) (ft : FT) : Prop := ∀ (B : Bs) G H σ ρ fp (Qd : Bool → Rho → Prop) (Q : Bool → Hp → Prop), B.io = io → Rp K B G H σ ρ fp → ft ρ Qd →
  (∀ b ρ' G' H' fp', Nxt K B σ G H fp G' H' ρ' fp' → Qd b ρ' → Q b H') → tt σ H Q
def PDe (X : Cx) (io : List Nat) (e : Expr) (fe : FE) : Prop := ∃ te, PE X e te ∧ DE X.K io te fe
def PDv (X : Cx) (io : List Nat) (e : Expr) (fv : FV) : Prop := ∃ te, PE X e te ∧ DV X.K io te fv
def PDo (X : Cx) (io : List Nat) (e : Expr) (fo : FO) : Prop := ∃ te, PE X e te ∧ DO X.K io te fo
def PDt (X : Cx) (io : List Nat) (e : Expr) (ft : FT) : Prop := ∃ tt, PT X e tt ∧ DT X.K io tt ft
@[simp] def eV (fe : FE) : FV := fun ρ Q => fe ρ fun r ρ' => Q r.data ρ'
@[simp] def vE (fv : FV) : FE := fun ρ Q => fv ρ fun d ρ' => Q (.dat d) ρ'
@[simp] def vO (fv : FV) : FO := fun ρ Q => fv ρ fun d ρ' => Q (.d d) ρ'
section
variable {X : Cx} {io : List Nat} {e a b c : Expr} {pos : Pos}
theorem ev {fe : FE} (h : PDe X io e fe) : PDv X io e (eV fe) := by
  obtain ⟨te, h1, h2⟩ := h
  refine ⟨te, h1, fun B G H σ ρ fp Qd Q hB R hf k => h2 B G H σ ρ fp _ Q hB R hf fun r ρ' v G' H' fp' fr n ot t1 t2 q => ?_⟩
  obtain ⟨n', rq⟩ := Nxt.sealed R n ot t1 t2
  exact k _ _ _ _ _ _ n' rq q
theorem ve {fv : FV} (h : PDv X io e fv) : PDe X io e (vE fv) := by
  obtain ⟨te, h1, h2⟩ := h
  exact ⟨te, h1, fun B G H σ ρ fp Qd Q hB R hf k => h2 B G H σ ρ fp _ Q hB R hf fun d ρ' v G' H' fp' n rq q => k _ _ _ _ _ _ [] n (.dat rq) (fun _ z => nomatch z) (fun _ z => nomatch z) q⟩
theorem vo {fv : FV} (h : PDv X io e fv) : PDo X io e (vO fv) := by
  obtain ⟨te, h1, h2⟩ := h
  exact ⟨te, h1, fun B G H σ ρ fp Qd Q hB R hf k => h2 B G H σ ρ fp _ Q hB R hf fun d ρ' v G' H' fp' n rq q => k (.d d) _ _ _ _ _ n rq q⟩
/-! names -/
@[simp] def fVar (i : Nat) : FV := fun ρ Q => ∃ d, ρ[i]? = some (some (.dat d)) ∧ Q d ρ
@[simp] def fRef (i : Nat) : FO := fun ρ Q => (∃ t, ρ[i]? = some (some t)) ∧ Q (.r i) ρ
theorem n_v {te : TE} (i : Nat) (h : PE X e te) (ht : te = tVar i) : PDv X io e (fVar i) := by
  subst ht
  refine ⟨_, h, fun B G H σ ρ fp Qd Q hB R hf k => ?_⟩
  obtain ⟨d, e1, q⟩ := hf
  obtain ⟨v, e2, ot⟩ := R.co.slot i _ e1
  exact ⟨v, e2, k d ρ v G H fp (Nxt.refl R) ot.dat_inv.1 q⟩
theorem n_o {te : TE} (i : Nat) (h : PE X e te) (ht : te = tVar i) : PDo X io e (fRef i) := by
  subst ht
  refine ⟨_, h, fun B G H σ ρ fp Qd Q hB R hf k => ?_⟩
  obtain ⟨⟨t, e1⟩, q⟩ := hf
  obtain ⟨v, e2, ot⟩ := R.co.slot i _ e1
  exact ⟨v, e2, k (.r i) ρ v G H fp (Nxt.refl R) e2 q⟩
/-- the slot's tree leaves the slot -/
@[simp] def fMove (io : List Nat) (i : Nat) : FE := fun ρ Q => ∃ t, ρ[i]? = some (some t) ∧ i ∉ io ∧ Q t (ρ.set i none)
theorem set_none_ne {ρ : Rho} {i j : Nat} {t : SV} (h : (ρ.set i none)[j]? = some (some t)) : j ≠ i ∧ ρ[j]? = some (some t) := by
  by_cases e : j = i
  · subst e
    rw [List.getElem?_set] at h
    simp at h
  · rw [List.getElem?_set_ne (Ne.symm e)] at h
    exact ⟨e, h⟩
theorem Rp.drop {K : PySem.W.Frag} {B : Bs} {G H : Hp} {σ : L2.St} {ρ : Rho} {fp : Nat → List Addr} (R : Rp K B G H σ ρ fp) (i : Nat) (hi : i ∉ B.io) : Rp K B G H σ (ρ.set i none) (fun j => if j = i then [] else fp j) := by
  refine ⟨⟨by rw [List.length_set]; exact R.co.len, R.co.sub, fun j t h => ?_, fun j h => ?_, fun j l a h1 h2 => ?_⟩, R.stp, fun a h => ?_, fun j m => ?_, R.lo⟩
  · obtain ⟨ne, h⟩ := set_none_ne h
    simp only [if_neg ne]
    exact R.co.slot j t h
  · by_cases e : j = i
    · exact if_pos e
    · simp only [if_neg e]
      exact R.co.nil j fun t q => h t (by rw [List.getElem?_set_ne (Ne.symm e)]; exact q)
  · by_cases e1 : j = i
    · simp [e1] at h1
    · by_cases e2 : l = i
      · simp [e2] at h2
      · simp only [if_neg e1] at h1
        simp only [if_neg e2] at h2
        exact R.co.dis j l a h1 h2
  · obtain ⟨j, m⟩ := h
    by_cases e1 : j = i
    · simp [e1] at m
    · simp only [if_neg e1] at m
      exact R.own a ⟨j, m⟩
  · obtain ⟨v, t, h1, h2, h3⟩ := R.io j m
    exact ⟨v, t, h1, h2, by rw [List.getElem?_set_ne (fun e : i = j => hi (e.symm ▸ m))]; exact h3⟩
theorem n_mv {te : TE} (i : Nat) (h : PE X e te) (ht : te = tVar i) : PDe X io e (fMove io i) := by
  subst ht
  refine ⟨_, h, fun B G H σ ρ fp Qd Q hB R hf k => ?_⟩
  obtain ⟨t, e1, ni, q⟩ := hf
  obtain ⟨v, e2, ot⟩ := R.co.slot i _ e1
  have inn : ∀ a, In (fun j => if j = i then [] else fp j) a → In fp a := fun a ⟨j, m⟩ => by
    by_cases e1 : j = i
    · simp [e1] at m
    · simp only [if_neg e1] at m
      exact ⟨j, m⟩
  refine ⟨v, e2, k t _ v G H _ (fp i) ⟨R.drop i (by rw [hB]; exact ni), Stp.refl G H, fun a h => .inl (inn a h)⟩ ot (fun a m ⟨j, m'⟩ => ?_) (fun a m => .inr ⟨i, m⟩) q⟩
  by_cases e1 : j = i
  · simp [e1] at m'
  · simp only [if_neg e1] at m'
    exact e1 (R.co.dis j i a m' m)
end
end DL

namespace DL
open PySem PySem.Spec PyProof.Rows L2

/-- a value told by itself -/
inductive Lit : V → DD → Prop
  | non : Lit .non .non
  | bl (b : Bool) : Lit (.bl b) (.bl b)
  | int (i : Int) : Lit (.int i) (.int i)
  | str (x : Str) : Lit (.str x) (.str x)
theorem Lit.rq {K : PySem.W.Frag} {G : Hp} {v : V} {d : DD} (h : Lit v d) : Rq K G v d := by
  cases h
  · exact .non
  · exact .bl _
  · exact .int _
  · exact .str _
section
variable {K : PySem.W.Frag} {B : Bs} {σ : L2.St} {G H G' H' : Hp} {ρ ρ' : Rho} {fp fp' : Nat → List Addr} {v : V} {o : OV}
theorem OVR.next (n : Nxt K B σ G H fp G' H' ρ' fp') (h : OVR K G σ v o) : OVR K G' σ v o := by
  cases o with
  | d x => exact Rq.mono n.st.ex h
  | r i => exact h
/-- what an operand is when it is looked at -/
theorem OVR.tree (R : Rp K B G H σ ρ fp) (h : OVR K G σ v o) {t : SV} (e : resT ρ o = some t) : ∃ f, OT K G H v t f ∧ (∀ a ∈ f, In fp a) := by
  cases o with
  | d x =>
    have : SV.dat x = t := Option.some.inj e
    subst this
    exact ⟨[], .dat h, fun _ z => nomatch z⟩
  | r i =>
    have e' : ρ[i]? = some (some t) := by
      simp only [resT_r] at e
      cases q : ρ[i]? with
      | none => rw [q] at e; cases e
      | some z => rw [q] at e; simp at e; rw [e]
    obtain ⟨u, e1, ot⟩ := R.co.slot i t e'
    have h' : σ[i]? = some (some v) := h
    rw [h'] at e1
    have : v = u := by injection e1 with z; injection z
    subst this
    exact ⟨fp i, ot, fun a m => ⟨i, m⟩⟩
theorem OVR.rqH (R : Rp K B G H σ ρ fp) (h : OVR K G σ v o) {d : DD} (e : resD ρ o = some d) : Rq K H v d := by
  unfold resD at e
  cases q : resT ρ o with
  | none => rw [q] at e; cases e
  | some t =>
    rw [q] at e
    have e' : t.data = d := Option.some.inj e
    obtain ⟨f, ot, _⟩ := h.tree R q
    rw [← e']
    exact ot.sealed R.co.sub fun _ _ _ z => z
end

section
variable {X : Cx} {io : List Nat} {e a b c : Expr} {pos : Pos}
/-! constants -/
@[simp] def fC (d : DD) : FV := fun ρ Q => Q d ρ
theorem c_of {v : V} {d : DD} (h : PE X e (tC v)) (l : Lit v d) : PDv X io e (fC d) :=
  ⟨_, h, fun B G H σ ρ fp Qd Q hB R hf k => k d ρ v G H fp (Nxt.refl R) l.rq hf⟩
theorem c_int {i : Int} {j : Nat} : PDv X io (.Constant (.int i) j pos) (fC (.int i)) := c_of pe_int (.int i)
theorem c_bl {i : Bool} {j : Nat} : PDv X io (.Constant (.bool i) j pos) (fC (.bl i)) := c_of pe_bl (.bl i)
theorem c_str {i : Str} {j : Nat} : PDv X io (.Constant (.str i) j pos) (fC (.str i)) := c_of pe_str (.str i)
theorem c_non {j : Nat} : PDv X io (.Constant .none j pos) (fC .non) := c_of pe_non .non
/-- a constant of the module -/
theorem c_glob {x : Str} {v : V} {d : DD} {u : Value} (hm : X.mg x = some u) (r : RelV v u) (l : Rq X.K (fun _ => none) v d) (hg : Gl X x := by rfl) (hd : (x == ("__debug__" : Str)) = false := by decide) : PDv X io (.Name x pos) (fC d) :=
  ⟨_, pe_glob hg hm r hd, fun B G H σ ρ fp Qd Q hB R hf k => k d ρ v G H fp (Nxt.refl R) (l.mono fun _ _ z => by cases z) hf⟩

/-! operations with a told value -/
def Op2 := DD → DD → (DD → Prop) → Prop
def ScR (K : PySem.W.Frag) (r : R2) (op : Op2) : Prop := ∀ H x y d e (P : DD → Prop) (Q : VK), Rq K H x d → Rq K H y e → op d e P → (∀ z w, P z → Lit w z → Q w H) → r x y H Q
@[simp] def fBin (op : Op2) (fa fb : FO) : FV := fun ρ Q => fa ρ fun x ρ1 => fb ρ1 fun y ρ2 => ∃ d e, resD ρ2 x = some d ∧ resD ρ2 y = some e ∧ op d e fun z => Q z ρ2
theorem dv_op {r : R2} {op : Op2} {ta tb : TE} {fa fb : FO} (hr : ScR X.K r op) (ha : DO X.K io ta fa) (hb : DO X.K io tb fb) : DV X.K io (tOp r ta tb) (fBin op fa fb) := by
  intro B G H σ ρ fp Qd Q hB R hf k
  refine ha B G H σ ρ fp _ _ hB R hf fun x ρ1 v1 G1 H1 fp1 n1 o1 hf => ?_
  refine hb B G1 H1 σ ρ1 fp1 _ _ hB n1.rp hf fun y ρ2 v2 G2 H2 fp2 n2 o2 ⟨d, e, e1, e2, q⟩ => ?_
  exact hr H2 v1 v2 d e _ Q ((o1.next n2).rqH n2.rp e1) (o2.rqH n2.rp e2) q fun z w q l => k z ρ2 w G2 H2 fp2 (n1.trans n2) l.rq q
theorem p_op {op : Operator} {r : R2} {f : Op2} {fa fb : FO} (ho : OpR X (binaryOp op) r) (hr : ScR X.K r f) (ha : PDo X io a fa) (hb : PDo X io b fb) : PDv X io (.BinOp a op b pos) (fBin f fa fb) := by
  obtain ⟨ta, a1, a2⟩ := ha
  obtain ⟨tb, b1, b2⟩ := hb
  exact ⟨_, pe_op ho a1 b1, dv_op hr a2 b2⟩
theorem p_cmp {op : CmpOp} {r : R2} {f : Op2} {fa fb : FO} (ho : OpR X (compareOp op) r) (hr : ScR X.K r f) (hm : behindInMarks op b = false) (ha : PDo X io a fa) (hb : PDo X io b fb) : PDv X io (.Compare a [op] [b] pos) (fBin f fa fb) := by
  obtain ⟨ta, a1, a2⟩ := ha
  obtain ⟨tb, b1, b2⟩ := hb
  exact ⟨_, pe_cmpR ho a1 b1 hm, dv_op hr a2 b2⟩
/-- a value as a test -/
@[simp] def fTst (fv : FV) : FT := fun ρ Q => fv ρ fun d ρ' => ∃ b, d = .bl b ∧ Q b ρ'
theorem Rq.bl_inv {K : PySem.W.Frag} {G : Hp} {v : V} {b : Bool} (h : Rq K G v (.bl b)) : v = .bl b := by cases h; rfl
theorem Rq.int_inv {K : PySem.W.Frag} {G : Hp} {v : V} {b : Int} (h : Rq K G v (.int b)) : v = .int b := by cases h; rfl
theorem Rq.str_inv {K : PySem.W.Frag} {G : Hp} {v : V} {b : Str} (h : Rq K G v (.str b)) : v = .str b := by cases h; rfl
theorem Rq.non_inv {K : PySem.W.Frag} {G : Hp} {v : V} (h : Rq K G v .non) : v = .non := by cases h; rfl
theorem Rq.opq_inv {K : PySem.W.Frag} {G : Hp} {v w : V} (h : Rq K G v (.opq w)) : v = w := by cases h; rfl
theorem Rq.lst_inv {K : PySem.W.Frag} {G : Hp} {v : V} {ds : List DD} (h : Rq K G v (.lst ds)) : ∃ a xs, v = .ref a ∧ Rd G a (.lst xs) ∧ RqA K G xs ds := by cases h with | lst h r => exact ⟨_, _, rfl, h, r⟩
theorem Rq.tup_inv {K : PySem.W.Frag} {G : Hp} {v : V} {ds : List DD} (h : Rq K G v (.tup ds)) : ∃ a xs, v = .ref a ∧ SqT K G a xs ∧ RqA K G xs ds := by cases h with | tup h r => exact ⟨_, _, rfl, h, r⟩
theorem Rq.obj_inv {K : PySem.W.Frag} {G : Hp} {v : V} {C : Addr} {ds : List (Str × DD)} (h : Rq K G v (.obj C ds)) : ∃ a dx fs, v = .ref a ∧ G a = some (.ins C dx fs) ∧ RqF K G fs ds := by cases h with | obj h r => exact ⟨_, _, _, rfl, h, r⟩
theorem dt_B {te : TE} {fv : FV} (h : DV X.K io te fv) : DT X.K io (tB te) (fTst fv) := by
  intro B G H σ ρ fp Qd Q hB R hf k
  refine h B G H σ ρ fp _ _ hB R hf fun d ρ' v G' H' fp' n r ⟨b, e, q⟩ => ?_
  subst e
  exact ⟨b, r.bl_inv, k b ρ' G' H' fp' n q⟩
theorem dt_T {te : TE} {fv : FV} (h : DV X.K io te fv) : DT X.K io (tTest te) (fTst fv) := by
  intro B G H σ ρ fp Qd Q hB R hf k
  refine h B G H σ ρ fp _ _ hB R hf fun d ρ' v G' H' fp' n r ⟨b, e, q⟩ => ?_
  subst e
  exact ⟨b, r.bl_inv, k b ρ' G' H' fp' n q⟩
theorem t_cmp {op : CmpOp} {r : R2} {f : Op2} {fa fb : FO} (ho : OpR X (compareOp op) r) (hr : ScR X.K r f) (hm : behindInMarks op b = false) (ha : PDo X io a fa) (hb : PDo X io b fb) : PDt X io (.Compare a [op] [b] pos) (fTst (fBin f fa fb)) := by
  obtain ⟨ta, a1, a2⟩ := ha
  obtain ⟨tb, b1, b2⟩ := hb
  exact ⟨_, pt_cmpR ho a1 b1 hm, dt_T (dv_op hr a2 b2)⟩
theorem t_val {fv : FV} (h : PDv X io e fv) (he : ∀ whole, isTrue e X.env whole = (do let v ← whole; standAt e.pos; holding [v] (truthy v)) := by intro _; rfl) : PDt X io e (fTst fv) := by
  obtain ⟨te, h1, h2⟩ := h
  exact ⟨_, pt_val h1 he, dt_B h2⟩
/-! and, or, not -/
structure PDw (X : Cx) (io : List Nat) (e : Expr) (ft : FT) : Prop where
  h : ∃ tt, PW X e tt ∧ DT X.K io tt ft
@[simp] def fAnd (f g : FT) : FT := fun ρ Q => f ρ fun c ρ1 => if c = true then g ρ1 Q else Q false ρ1
@[simp] def fOr (f g : FT) : FT := fun ρ Q => f ρ fun c ρ1 => if c = true then Q true ρ1 else g ρ1 Q
@[simp] def fNot (f : FT) : FT := fun ρ Q => f ρ fun c ρ1 => Q (!c) ρ1
variable {rest : List Expr} {f g : FT}
theorem w_and1 (h : PDt X io a f) : PDw X io (.BoolOp .And [a] pos) f := let ⟨_, h1, h2⟩ := h; ⟨_, pw_and1 h1, h2⟩
theorem w_or1 (h : PDt X io a f) : PDw X io (.BoolOp .Or [a] pos) f := let ⟨_, h1, h2⟩ := h; ⟨_, pw_or1 h1, h2⟩
theorem dt_and {t u : TT} (h1 : DT X.K io t f) (h2 : DT X.K io u g) : DT X.K io (tAnd t u) (fAnd f g) := by
  intro B G H σ ρ fp Qd Q hB R hf k
  refine h1 B G H σ ρ fp _ _ hB R hf fun c ρ1 G1 H1 fp1 n1 q => ?_
  cases c with
  | true => exact h2 B G1 H1 σ ρ1 fp1 Qd Q hB n1.rp q fun b ρ2 G2 H2 fp2 n2 q => k b ρ2 G2 H2 fp2 (n1.trans n2) q
  | false => exact k false ρ1 G1 H1 fp1 n1 q
theorem dt_or {t u : TT} (h1 : DT X.K io t f) (h2 : DT X.K io u g) : DT X.K io (tOr t u) (fOr f g) := by
  intro B G H σ ρ fp Qd Q hB R hf k
  refine h1 B G H σ ρ fp _ _ hB R hf fun c ρ1 G1 H1 fp1 n1 q => ?_
  cases c with
  | true => exact k true ρ1 G1 H1 fp1 n1 q
  | false => exact h2 B G1 H1 σ ρ1 fp1 Qd Q hB n1.rp q fun b ρ2 G2 H2 fp2 n2 q => k b ρ2 G2 H2 fp2 (n1.trans n2) q
theorem w_and (h1 : PDt X io a f) (h2 : PDw X io (.BoolOp .And (b :: rest) pos) g) : PDw X io (.BoolOp .And (a :: b :: rest) pos) (fAnd f g) := by
  obtain ⟨_, a1, a2⟩ := h1
  obtain ⟨_, b1, b2⟩ := h2.h
  exact ⟨_, pw_and a1 b1, dt_and a2 b2⟩
theorem w_or (h1 : PDt X io a f) (h2 : PDw X io (.BoolOp .Or (b :: rest) pos) g) : PDw X io (.BoolOp .Or (a :: b :: rest) pos) (fOr f g) := by
  obtain ⟨_, a1, a2⟩ := h1
  obtain ⟨_, b1, b2⟩ := h2.h
  exact ⟨_, pw_or a1 b1, dt_or a2 b2⟩
theorem t_w (h : PDw X io e f) : PDt X io e f := let ⟨_, h1, h2⟩ := h.h; ⟨_, h1.pt, h2⟩
theorem t_not (h : PDt X io a f) : PDt X io (.UnaryOp .Not a pos) (fNot f) := by
  obtain ⟨_, h1, h2⟩ := h
  exact ⟨_, pt_not h1, fun B G H σ ρ fp Qd Q hB R hf k => h2 B G H σ ρ fp _ _ hB R hf fun b ρ' G' H' fp' n q => k (!b) ρ' G' H' fp' n q⟩
/-- .. as values: all bools -/
@[simp] def fAndV (fa fb : FV) : FV := fun ρ Q => fa ρ fun d ρ1 => ∃ c, d = .bl c ∧ if c = true then fb ρ1 Q else Q (.bl false) ρ1
@[simp] def fOrV (fa fb : FV) : FV := fun ρ Q => fa ρ fun d ρ1 => ∃ c, d = .bl c ∧ if c = true then Q (.bl true) ρ1 else fb ρ1 Q
@[simp] def fNotV (fa : FV) : FV := fun ρ Q => fa ρ fun d ρ1 => ∃ c, d = .bl c ∧ Q (.bl (!c)) ρ1
variable {fa fb : FV}
theorem v_one {op : BoolOp} (h : PDv X io a fa) : PDv X io (.BoolOp op [a] pos) fa := let ⟨_, h1, h2⟩ := h; ⟨_, pe_one h1, h2⟩
theorem v_and (h1 : PDv X io a fa) (h2 : PDv X io (.BoolOp .And (b :: rest) pos) fb) : PDv X io (.BoolOp .And (a :: b :: rest) pos) (fAndV fa fb) := by
  obtain ⟨_, a1, a2⟩ := h1
  obtain ⟨_, b1, b2⟩ := h2
  refine ⟨_, pe_and a1 b1, fun B G H σ ρ fp Qd Q hB R hf k => ?_⟩
  refine a2 B G H σ ρ fp _ _ hB R hf fun d ρ1 v G1 H1 fp1 n1 r ⟨c, e, q⟩ => ?_
  subst e
  refine ⟨c, r.bl_inv, ?_⟩
  cases c with
  | true => exact b2 B G1 H1 σ ρ1 fp1 Qd Q hB n1.rp q fun d ρ2 v G2 H2 fp2 n2 r q => k d ρ2 v G2 H2 fp2 (n1.trans n2) r q
  | false => exact k _ ρ1 _ G1 H1 fp1 n1 (.bl false) q
theorem v_or (h1 : PDv X io a fa) (h2 : PDv X io (.BoolOp .Or (b :: rest) pos) fb) : PDv X io (.BoolOp .Or (a :: b :: rest) pos) (fOrV fa fb) := by
  obtain ⟨_, a1, a2⟩ := h1
  obtain ⟨_, b1, b2⟩ := h2
  refine ⟨_, pe_or a1 b1, fun B G H σ ρ fp Qd Q hB R hf k => ?_⟩
  refine a2 B G H σ ρ fp _ _ hB R hf fun d ρ1 v G1 H1 fp1 n1 r ⟨c, e, q⟩ => ?_
  subst e
  refine ⟨c, r.bl_inv, ?_⟩
  cases c with
  | true => exact k _ ρ1 _ G1 H1 fp1 n1 (.bl true) q
  | false => exact b2 B G1 H1 σ ρ1 fp1 Qd Q hB n1.rp q fun d ρ2 v G2 H2 fp2 n2 r q => k d ρ2 v G2 H2 fp2 (n1.trans n2) r q
theorem v_not (h : PDv X io a fa) : PDv X io (.UnaryOp .Not a pos) (fNotV fa) := by
  obtain ⟨_, h1, h2⟩ := h
  refine ⟨_, pe_not h1, fun B G H σ ρ fp Qd Q hB R hf k => ?_⟩
  refine h2 B G H σ ρ fp _ _ hB R hf fun d ρ' v G' H' fp' n r ⟨c, e, q⟩ => ?_
  subst e
  exact ⟨c, r.bl_inv, k _ ρ' _ G' H' fp' n (.bl _) q⟩
/-- a if t else b -/
@[simp] def fIfE (ft : FT) (fa fb : FE) : FE := fun ρ Q => ft ρ fun c ρ1 => if c = true then fa ρ1 Q else fb ρ1 Q
theorem e_if {ft : FT} {fa fb : FE} (hc : PDt X io c ft) (ha : PDe X io a fa) (hb : PDe X io b fb) : PDe X io (.IfExp c a b pos) (fIfE ft fa fb) := by
  obtain ⟨_, c1, c2⟩ := hc
  obtain ⟨_, a1, a2⟩ := ha
  obtain ⟨_, b1, b2⟩ := hb
  refine ⟨_, pe_ifExp c1 a1 b1, fun B G H σ ρ fp Qd Q hB R hf k => ?_⟩
  refine c2 B G H σ ρ fp _ _ hB R hf fun c ρ1 G1 H1 fp1 n1 q => ?_
  have back : ∀ {fr : List Addr}, (∀ a ∈ fr, H1 a = none ∨ In fp1 a) → ∀ a ∈ fr, H a = none ∨ In fp a := fun h a m => (h a m).elim (fun z => by
    by_cases q : In fp a
    · exact .inr q
    · exact .inl (n1.st.fresh q z)) fun z => (n1.inn a z).symm
  cases c with
  | true => exact a2 B G1 H1 σ ρ1 fp1 _ Q hB n1.rp q fun r ρ2 v G2 H2 fp2 fr n2 ot t1 t2 q => k r ρ2 v G2 H2 fp2 fr (n1.trans n2) ot t1 (back t2) q
  | false => exact b2 B G1 H1 σ ρ1 fp1 _ Q hB n1.rp q fun r ρ2 v G2 H2 fp2 fr n2 ot t1 t2 q => k r ρ2 v G2 H2 fp2 fr (n1.trans n2) ot t1 (back t2) q
end
end DL

namespace DL
open PySem PySem.Spec PyProof.Rows L2
section
variable {X : Cx} {io : List Nat} {e a b c : Expr} {pos : Pos} {K : PySem.W.Frag}
/-! ints -/
@[simp] def opI (C : Int → Int → Prop) (g : Int → Int → DD) : Op2 := fun d e P => ∃ i j, d = .int i ∧ e = .int j ∧ C i j ∧ P (g i j)
@[simp] def opI0 (g : Int → Int → DD) : Op2 := fun d e P => ∃ i j, d = .int i ∧ e = .int j ∧ P (g i j)
theorem sc_I {C : Int → Int → Prop} {g : Int → Int → Int} : ScR K (rI C fun i j => .int (g i j)) (opI C fun i j => .int (g i j)) := fun H x y d e P Q hx hy h k => by
  obtain ⟨i, j, rfl, rfl, hc, p⟩ := h
  exact ⟨i, j, hx.int_inv, hy.int_inv, hc, k _ _ p (.int _)⟩
theorem sc_I0 {g : Int → Int → Int} : ScR K (rI0 fun i j => .int (g i j)) (opI0 fun i j => .int (g i j)) := fun H x y d e P Q hx hy h k => by
  obtain ⟨i, j, rfl, rfl, p⟩ := h
  exact ⟨i, j, hx.int_inv, hy.int_inv, k _ _ p (.int _)⟩
theorem sc_B0 {g : Int → Int → Bool} : ScR K (rI0 fun i j => .bl (g i j)) (opI0 fun i j => .bl (g i j)) := fun H x y d e P Q hx hy h k => by
  obtain ⟨i, j, rfl, rfl, p⟩ := h
  exact ⟨i, j, hx.int_inv, hy.int_inv, k _ _ p (.bl _)⟩
variable {fa fb : FO}
abbrev oAdd : Op2 := opI0 fun i j => .int (i + j)
abbrev oSub : Op2 := opI0 fun i j => .int (i - j)
abbrev oMul : Op2 := opI IntMulOk fun i j => .int (i * j)
abbrev oDiv : Op2 := opI (fun i j => j ≠ 0 ∧ Builtin.divisionGoesByPylong i j = false) fun i j => .int (i.fdiv j)
abbrev oMod : Op2 := opI (fun _ j => j ≠ 0) fun i j => .int (i.fmod j)
abbrev oPow : Op2 := opI (fun i j => 0 ≤ j ∧ (Builtin.Int.intBits i : Int) * j ≤ 2 ^ 27) fun i j => .int (i ^ j.toNat)
abbrev oLt : Op2 := opI0 fun i j => .bl (decide (i < j))
abbrev oLe : Op2 := opI0 fun i j => .bl (decide (i ≤ j))
abbrev oGt : Op2 := opI0 fun i j => .bl (decide (j < i))
abbrev oGe : Op2 := opI0 fun i j => .bl (decide (j ≤ i))
abbrev oEqI : Op2 := opI0 fun i j => .bl (decide (i = j))
abbrev oNeI : Op2 := opI0 fun i j => .bl (!decide (i = j))
theorem p_add (ha : PDo X io a fa) (hb : PDo X io b fb) : PDv X io (.BinOp a .Add b pos) (fBin oAdd fa fb) := p_op op_add sc_I0 ha hb
theorem p_sub (ha : PDo X io a fa) (hb : PDo X io b fb) : PDv X io (.BinOp a .Sub b pos) (fBin oSub fa fb) := p_op op_sub sc_I0 ha hb
theorem p_mul (ha : PDo X io a fa) (hb : PDo X io b fb) : PDv X io (.BinOp a .Mult b pos) (fBin oMul fa fb) := p_op (L2.opI fun _ _ _ _ _ _ _ hc q => mul_int q hc) sc_I ha hb
theorem p_div (ha : PDo X io a fa) (hb : PDo X io b fb) : PDv X io (.BinOp a .FloorDiv b pos) (fBin oDiv fa fb) := p_op (L2.opI fun _ _ _ _ _ _ _ hc q => floordiv_int hc.1 q (.inl hc.2)) sc_I ha hb
theorem p_mod (ha : PDo X io a fa) (hb : PDo X io b fb) : PDv X io (.BinOp a .Mod b pos) (fBin oMod fa fb) := p_op op_modN sc_I ha hb
theorem p_pow (ha : PDo X io a fa) (hb : PDo X io b fb) : PDv X io (.BinOp a .Pow b pos) (fBin oPow fa fb) := p_op (L2.opI fun _ _ _ _ _ _ _ hc q => pow_int hc.1 hc.2 q) sc_I ha hb
theorem p_lt (ha : PDo X io a fa) (hb : PDo X io b fb) : PDv X io (.Compare a [.Lt] [b] pos) (fBin oLt fa fb) := p_cmp op_lt sc_B0 (nomark _) ha hb
theorem p_le (ha : PDo X io a fa) (hb : PDo X io b fb) : PDv X io (.Compare a [.LtE] [b] pos) (fBin oLe fa fb) := p_cmp op_le sc_B0 (nomark _) ha hb
theorem p_gt (ha : PDo X io a fa) (hb : PDo X io b fb) : PDv X io (.Compare a [.Gt] [b] pos) (fBin oGt fa fb) := p_cmp op_gt sc_B0 (nomark _) ha hb
theorem p_ge (ha : PDo X io a fa) (hb : PDo X io b fb) : PDv X io (.Compare a [.GtE] [b] pos) (fBin oGe fa fb) := p_cmp op_ge sc_B0 (nomark _) ha hb
theorem q_lt (ha : PDo X io a fa) (hb : PDo X io b fb) : PDt X io (.Compare a [.Lt] [b] pos) (fTst (fBin oLt fa fb)) := t_cmp op_lt sc_B0 (nomark _) ha hb
theorem q_le (ha : PDo X io a fa) (hb : PDo X io b fb) : PDt X io (.Compare a [.LtE] [b] pos) (fTst (fBin oLe fa fb)) := t_cmp op_le sc_B0 (nomark _) ha hb
theorem q_gt (ha : PDo X io a fa) (hb : PDo X io b fb) : PDt X io (.Compare a [.Gt] [b] pos) (fTst (fBin oGt fa fb)) := t_cmp op_gt sc_B0 (nomark _) ha hb
theorem q_ge (ha : PDo X io a fa) (hb : PDo X io b fb) : PDt X io (.Compare a [.GtE] [b] pos) (fTst (fBin oGe fa fb)) := t_cmp op_ge sc_B0 (nomark _) ha hb

/-! == of data -/
/-- == of data -/
def eqD (d e : DD) : Bool := PyData.eqv d.py e.py
def okD (d : DD) : Bool := d.pure && SeqAt.shaped d.py
@[simp] def oEq : Op2 := fun d e P => okD d = true ∧ okD e = true ∧ P (.bl (eqD d e))
@[simp] def oNe : Op2 := fun d e P => okD d = true ∧ okD e = true ∧ P (.bl (!eqD d e))
theorem okD_of {d : DD} (h : okD d = true) : d.pure = true ∧ SeqAt.shaped d.py = true := Bool.and_eq_true_iff.mp h
theorem sc_eq : ScR K (rEqD K) oEq := fun H x y d e P Q hx hy h k => by
  obtain ⟨h1, h2, p⟩ := h
  exact ⟨_, _, hx.dp (okD_of h1).1, hy.dp (okD_of h2).1, (okD_of h1).2, (okD_of h2).2, k _ _ p (.bl _)⟩
theorem sc_ne : ScR K (rNeD K) oNe := fun H x y d e P Q hx hy h k => by
  obtain ⟨h1, h2, p⟩ := h
  exact ⟨_, _, hx.dp (okD_of h1).1, hy.dp (okD_of h2).1, (okD_of h1).2, (okD_of h2).2, k _ _ p (.bl _)⟩
theorem p_eq {k : Nat} (hr : Room k X.A) (ha : PDo X io a fa) (hb : PDo X io b fb) : PDv X io (.Compare a [.Eq] [b] pos) (fBin oEq fa fb) := p_cmp (op_eqD hr.units) sc_eq (nomark _) ha hb
theorem p_ne {k : Nat} (hr : Room k X.A) (ha : PDo X io a fa) (hb : PDo X io b fb) : PDv X io (.Compare a [.NotEq] [b] pos) (fBin oNe fa fb) := p_cmp (op_neD hr.units) sc_ne (nomark _) ha hb
theorem q_eq {k : Nat} (hr : Room k X.A) (ha : PDo X io a fa) (hb : PDo X io b fb) : PDt X io (.Compare a [.Eq] [b] pos) (fTst (fBin oEq fa fb)) := t_cmp (op_eqD hr.units) sc_eq (nomark _) ha hb
theorem q_ne {k : Nat} (hr : Room k X.A) (ha : PDo X io a fa) (hb : PDo X io b fb) : PDt X io (.Compare a [.NotEq] [b] pos) (fTst (fBin oNe fa fb)) := t_cmp (op_neD hr.units) sc_ne (nomark _) ha hb
/-! is None -/
def isN : DD → Bool
  | .non => true
  | _ => false
/-- (an opaque value might be None) -/
def tld : DD → Bool
  | .opq _ => false
  | .at_ _ _ => false
  | _ => true
@[simp] def oIsN : Op2 := fun d e P => e = .non ∧ tld d = true ∧ P (.bl (isN d))
@[simp] def oNotN : Op2 := fun d e P => e = .non ∧ tld d = true ∧ P (.bl (!isN d))
theorem isN_of {G : Hp} {x : V} {d : DD} (h : Rq K G x d) (t : tld d = true) : decide (x = .non) = isN d := by
  cases h <;> first | rfl | (simp [isN]; done) | cases t
theorem sc_isN : ScR K (fun x y H Q => y = .non ∧ Q (.bl (decide (x = .non))) H) oIsN := fun H x y d e P Q hx hy h k => by
  obtain ⟨rfl, t, p⟩ := h
  exact ⟨hy.non_inv, by rw [isN_of hx t]; exact k _ _ p (.bl _)⟩
theorem sc_notN : ScR K (fun x y H Q => y = .non ∧ Q (.bl (!decide (x = .non))) H) oNotN := fun H x y d e P Q hx hy h k => by
  obtain ⟨rfl, t, p⟩ := h
  exact ⟨hy.non_inv, by rw [isN_of hx t]; exact k _ _ p (.bl _)⟩
theorem p_isN (ha : PDo X io a fa) (hb : PDo X io b fb) : PDv X io (.Compare a [.Is] [b] pos) (fBin oIsN fa fb) := p_cmp op_isN sc_isN (nomark _) ha hb
theorem p_notN (ha : PDo X io a fa) (hb : PDo X io b fb) : PDv X io (.Compare a [.IsNot] [b] pos) (fBin oNotN fa fb) := p_cmp op_notN sc_notN (nomark _) ha hb
theorem q_isN (ha : PDo X io a fa) (hb : PDo X io b fb) : PDt X io (.Compare a [.Is] [b] pos) (fTst (fBin oIsN fa fb)) := t_cmp op_isN sc_isN (nomark _) ha hb
theorem q_notN (ha : PDo X io a fa) (hb : PDo X io b fb) : PDt X io (.Compare a [.IsNot] [b] pos) (fTst (fBin oNotN fa fb)) := t_cmp op_notN sc_notN (nomark _) ha hb
/-! - -/
def Op1 := DD → (DD → Prop) → Prop
def ScU (K : PySem.W.Frag) (r : V → Hp → VK → Prop) (op : Op1) : Prop := ∀ H x d (P : DD → Prop) (Q : VK), Rq K H x d → op d P → (∀ z w, P z → Lit w z → Q w H) → r x H Q
@[simp] def fUn (op : Op1) (fa : FO) : FV := fun ρ Q => fa ρ fun x ρ1 => ∃ d, resD ρ1 x = some d ∧ op d fun z => Q z ρ1
theorem dv_un {r : V → Hp → VK → Prop} {op : Op1} {ta : TE} (hr : ScU X.K r op) (ha : DO X.K io ta fa) : DV X.K io (tUn r ta) (fUn op fa) := by
  intro B G H σ ρ fp Qd Q hB R hf k
  refine ha B G H σ ρ fp _ _ hB R hf fun x ρ1 v1 G1 H1 fp1 n1 o1 ⟨d, e1, q⟩ => ?_
  exact hr H1 v1 d _ Q (o1.rqH n1.rp e1) q fun z w q l => k z ρ1 w G1 H1 fp1 n1 l.rq q
@[simp] def oNeg : Op1 := fun d P => ∃ i, d = .int i ∧ P (.int (-i))
theorem p_neg (ha : PDo X io a fa) : PDv X io (.UnaryOp .USub a pos) (fUn oNeg fa) := by
  obtain ⟨ta, a1, a2⟩ := ha
  refine ⟨_, pe_un un_neg a1, dv_un (fun H x d P Q hx h k => ?_) a2⟩
  obtain ⟨i, rfl, p⟩ := h
  exact ⟨i, hx.int_inv, k _ _ p (.int _)⟩
/-! chains a < b < c -/
def fChain (op op' : Op2) (fa fb fc : FO) : FV := fun ρ Q => fa ρ fun x ρ1 => fb ρ1 fun y ρ2 => ∃ d e, resD ρ2 x = some d ∧ resD ρ2 y = some e ∧ op d e fun z => ∃ k, z = .bl k ∧
  if k = true then fc ρ2 fun w ρ3 => ∃ e' g, resD ρ3 y = some e' ∧ resD ρ3 w = some g ∧ op' e' g fun z => Q z ρ3 else Q (.bl false) ρ2

/-! arguments of built-ins -/
abbrev FOs := Rho → (List OV → Rho → Prop) → Prop
def DOs (K : PySem.W.Frag) (io : List Nat) (ta : TA) (fos : FOs) : Prop := ∀ (B : Bs) G H σ ρ fp (Qd : List OV → Rho → Prop) (Q : List V → Hp → Prop), B.io = io → Rp K B G H σ ρ fp → fos ρ Qd →
  (∀ os ρ' vs G' H' fp', Nxt K B σ G H fp G' H' ρ' fp' → Paired (OVR K G' σ) vs os → Qd os ρ' → Q vs H') → ta σ H Q
def PDos (X : Cx) (io : List Nat) (es : List Expr) (fos : FOs) : Prop := ∃ ta, PA X es ta ∧ DOs X.K io ta fos
@[simp] def fNil : FOs := fun ρ Q => Q [] ρ
@[simp] def fCons (fa : FO) (fr : FOs) : FOs := fun ρ Q => fa ρ fun x ρ1 => fr ρ1 fun xs ρ2 => Q (x :: xs) ρ2
theorem os_nil : PDos X io [] fNil := ⟨_, pa_nil, fun B G H σ ρ fp Qd Q hB R hf k => k [] ρ [] G H fp (Nxt.refl R) .nil hf⟩
theorem os_cons {es : List Expr} {fr : FOs} (ha : PDo X io e fa) (hr : PDos X io es fr) (hs : starEach (e :: es) X.env = (false, eval e X.env) :: starEach es X.env := by rfl) : PDos X io (e :: es) (fCons fa fr) := by
  obtain ⟨_, a1, a2⟩ := ha
  obtain ⟨_, b1, b2⟩ := hr
  refine ⟨_, pa_cons a1 b1 hs, fun B G H σ ρ fp Qd Q hB R hf k => ?_⟩
  refine a2 B G H σ ρ fp _ _ hB R hf fun x ρ1 v1 G1 H1 fp1 n1 o1 hf => ?_
  refine b2 B G1 H1 σ ρ1 fp1 _ _ hB n1.rp hf fun xs ρ2 vs G2 H2 fp2 n2 os q => ?_
  exact k _ ρ2 _ G2 H2 fp2 (n1.trans n2) (.cons (o1.next n2) os) q
@[simp] def resDs (ρ : Rho) : List OV → Option (List DD)
  | [] => some []
  | o :: r => match resD ρ o, resDs ρ r with
    | some d, some ds => some (d :: ds)
    | _, _ => none
theorem Paired.rqH {B : Bs} {σ : L2.St} {G H : Hp} {ρ : Rho} {fp : Nat → List Addr} (R : Rp K B G H σ ρ fp) : ∀ {vs : List V} {os : List OV} {ds : List DD}, Paired (OVR K G σ) vs os → resDs ρ os = some ds → RqA K H vs ds
  | _, _, _, .nil, e => by
    have : [] = _ := Option.some.inj e
    subst this
    exact .nil
  | _, _, _, .cons (b := o) (l₂ := os) r t, e => by
    unfold resDs at e
    cases q1 : resD ρ o with
    | none => rw [q1] at e; cases e
    | some d =>
      cases q2 : resDs ρ os with
      | none => rw [q1, q2] at e; cases e
      | some ds =>
        rw [q1, q2] at e
        have := Option.some.inj e
        subst this
        exact .cons (r.rqH R q1) (Paired.rqH R t q2)
def OpN := List DD → (DD → Prop) → Prop
def ScC (K : PySem.W.Frag) (r : List V → Hp → VK → Prop) (op : OpN) : Prop := ∀ H xs ds (P : DD → Prop) (Q : VK), RqA K H xs ds → op ds P → (∀ z w, P z → Lit w z → Q w H) → r xs H Q
@[simp] def fCB (op : OpN) (fos : FOs) : FV := fun ρ Q => fos ρ fun os ρ1 => ∃ ds, resDs ρ1 os = some ds ∧ op ds fun z => Q z ρ1
theorem dv_cb {r : List V → Hp → VK → Prop} {op : OpN} {ta : TA} {fos : FOs} (hr : ScC X.K r op) (ha : DOs X.K io ta fos) : DV X.K io (tCB r ta) (fCB op fos) := by
  intro B G H σ ρ fp Qd Q hB R hf k
  refine ha B G H σ ρ fp _ _ hB R hf fun os ρ1 vs G1 H1 fp1 n1 o1 ⟨ds, e1, q⟩ => ?_
  exact hr H1 vs ds _ Q (Paired.rqH n1.rp o1 e1) q fun z w q l => k z ρ1 w G1 H1 fp1 n1 l.rq q
section
variable {x : Str} {p : Pos} {es : List Expr} {fos : FOs} {id T : String} {r : List V → Hp → VK → Prop} {op : OpN}
theorem p_cb (hc : CallR X (.builtin id) r) (hs : ScC X.K r op) (hm : X.mg x = none) (hv : bootBuiltins x = some (.builtin id)) (ha : PDos X io (e :: es) fos) (hg : Gl X x := by rfl) (hn : x ≠ "__name__" := by decide) (hdb : (x == ("__debug__" : Str)) = false := by decide)
    (he : starEach (e :: es) X.env = (false, eval e X.env) :: starEach es X.env := by rfl) (hpl : (backTo pos (starEach es X.env)).any (·.1) = false := by rfl) : PDv X io (.Call (.Name x p) (e :: es) [] pos) (fCB op fos) := by
  obtain ⟨_, a1, a2⟩ := ha
  exact ⟨_, pe_callB hc hg hm hv a1 hn hdb he hpl, dv_cb hs a2⟩
theorem p_ct (hc : CallR X (.type T) r) (hs : ScC X.K r op) (hm : X.mg x = none) (hv : bootBuiltins x = some (.type T)) (ha : PDos X io (e :: es) fos) (hg : Gl X x := by rfl) (hn : x ≠ "__name__" := by decide) (hdb : (x == ("__debug__" : Str)) = false := by decide)
    (he : starEach (e :: es) X.env = (false, eval e X.env) :: starEach es X.env := by rfl) (hpl : (backTo pos (starEach es X.env)).any (·.1) = false := by rfl) : PDv X io (.Call (.Name x p) (e :: es) [] pos) (fCB op fos) := by
  obtain ⟨_, a1, a2⟩ := ha
  exact ⟨_, pe_callTy hc hg hm hv a1 hn hdb he hpl, dv_cb hs a2⟩
end
theorem RqA.one {G : Hp} {xs : List V} {d : DD} (h : RqA K G xs [d]) : ∃ x, xs = [x] ∧ Rq K G x d := by
  cases h with
  | cons a b => cases b; exact ⟨_, rfl, a⟩
theorem RqA.two {G : Hp} {xs : List V} {d e : DD} (h : RqA K G xs [d, e]) : ∃ x y, xs = [x, y] ∧ Rq K G x d ∧ Rq K G y e := by
  cases h with
  | cons a b => cases b with | cons b c => cases c; exact ⟨_, _, rfl, a, b⟩
section
variable {p : Pos} {fos : FOs}
@[simp] def oLen : OpN := fun ds P => (∃ l, (ds = [.lst l] ∨ ds = [.klst l]) ∧ P (.int l.length)) ∨ (∃ l, ds = [.tup l] ∧ P (.int l.length)) ∨ ∃ x : Str, ds = [.str x] ∧ x.length ≤ sizeLine ∧ P (.int x.length)
theorem p_len (hm : X.mg "len" = none) (ha : PDos X io [e] fos) (hg : Gl X "len" := by rfl) (he : starEach [e] X.env = (false, eval e X.env) :: starEach [] X.env := by rfl) : PDv X io (.Call (.Name "len" p) [e] [] pos) (fCB oLen fos) :=
  p_cb (call_len_seq.or call_len_str) (fun H xs ds P Q hx h k => by
    rcases h with ⟨l, rfl | rfl, q⟩ | ⟨l, rfl, q⟩ | ⟨x, rfl, z, q⟩
    · obtain ⟨x, rfl, r⟩ := hx.one
      obtain ⟨a, ys, rfl, h, r⟩ := r.lst_inv
      exact .inl ⟨a, ys, rfl, .inl (.inl h), by rw [r.length]; exact k _ _ q (.int _)⟩
    · obtain ⟨x, rfl, r⟩ := hx.one
      cases r with
      | klst h r => exact .inl ⟨_, _, rfl, .inl (Sub.l (G := fun _ => none) (fun _ _ z => by cases z) h), by rw [r.length]; exact k _ _ q (.int _)⟩
    · obtain ⟨x, rfl, r⟩ := hx.one
      obtain ⟨a, ys, rfl, h, r⟩ := r.tup_inv
      exact .inl ⟨a, ys, rfl, .inr h, by rw [r.length]; exact k _ _ q (.int _)⟩
    · obtain ⟨y, rfl, r⟩ := hx.one
      have := r.str_inv
      subst this
      exact .inr ⟨x, rfl, z, k _ _ q (.int _)⟩) hm PySem.boot_len ha hg (by decide) (by decide) he
@[simp] def oAbs : OpN := fun ds P => ∃ i, ds = [.int i] ∧ P (.int (if i < 0 then -i else i))
theorem p_abs (hm : X.mg "abs" = none) (ha : PDos X io [e] fos) (hg : Gl X "abs" := by rfl) (he : starEach [e] X.env = (false, eval e X.env) :: starEach [] X.env := by rfl) : PDv X io (.Call (.Name "abs" p) [e] [] pos) (fCB oAbs fos) :=
  p_cb call_abs (fun H xs ds P Q hx h k => by
    obtain ⟨i, rfl, q⟩ := h
    obtain ⟨x, rfl, r⟩ := hx.one
    exact ⟨i, by rw [r.int_inv], k _ _ q (.int _)⟩) hm (by decide +kernel) ha hg (by decide) (by decide) he
@[simp] def oMax : OpN := fun ds P => ∃ i j, ds = [.int i, .int j] ∧ P (.int (if j > i then j else i))
@[simp] def oMin : OpN := fun ds P => ∃ i j, ds = [.int i, .int j] ∧ P (.int (if j < i then j else i))
theorem p_max (hc : X.calm = true) (hm : X.mg "max" = none) (ha : PDos X io [a, b] fos) (hg : Gl X "max" := by rfl) (he : starEach [a, b] X.env = (false, eval a X.env) :: starEach [b] X.env := by rfl) (hpl : (backTo pos (starEach [b] X.env)).any (·.1) = false := by rfl) : PDv X io (.Call (.Name "max" p) [a, b] [] pos) (fCB oMax fos) :=
  p_cb (call_max2 hc) (fun H xs ds P Q hx h k => by
    obtain ⟨i, j, rfl, q⟩ := h
    obtain ⟨x, y, rfl, r, s⟩ := hx.two
    exact ⟨i, j, by rw [r.int_inv, s.int_inv], k _ _ q (.int _)⟩) hm (by decide +kernel) ha hg (by decide) (by decide) he hpl
theorem p_min (hc : X.calm = true) (hm : X.mg "min" = none) (ha : PDos X io [a, b] fos) (hg : Gl X "min" := by rfl) (he : starEach [a, b] X.env = (false, eval a X.env) :: starEach [b] X.env := by rfl) (hpl : (backTo pos (starEach [b] X.env)).any (·.1) = false := by rfl) : PDv X io (.Call (.Name "min" p) [a, b] [] pos) (fCB oMin fos) :=
  p_cb (call_min2 hc) (fun H xs ds P Q hx h k => by
    obtain ⟨i, j, rfl, q⟩ := h
    obtain ⟨x, y, rfl, r, s⟩ := hx.two
    exact ⟨i, j, by rw [r.int_inv, s.int_inv], k _ _ q (.int _)⟩) hm (by decide +kernel) ha hg (by decide) (by decide) he hpl
@[simp] def oInt : OpN := fun ds P => (∃ i, ds = [.int i] ∧ P (.int i)) ∨ ∃ b, ds = [.bl b] ∧ P (.int (if b then 1 else 0))
theorem p_int (hm : X.mg "int" = none) (ha : PDos X io [e] fos) (hg : Gl X "int" := by rfl) (he : starEach [e] X.env = (false, eval e X.env) :: starEach [] X.env := by rfl) : PDv X io (.Call (.Name "int" p) [e] [] pos) (fCB oInt fos) :=
  p_ct call_int1 (fun H xs ds P Q hx h k => by
    rcases h with ⟨i, rfl, q⟩ | ⟨i, rfl, q⟩
    · obtain ⟨x, rfl, r⟩ := hx.one
      exact .inl ⟨i, by rw [r.int_inv], k _ _ q (.int _)⟩
    · obtain ⟨x, rfl, r⟩ := hx.one
      exact .inr ⟨i, by rw [r.bl_inv], k _ _ q (.int _)⟩) hm (by decide +kernel) ha hg (by decide) (by decide) he
end
end
end DL

namespace DL
open PySem PySem.Spec PyProof.Rows L2
section
variable {X : Cx} {io : List Nat} {e a b c : Expr} {pos : Pos} {K : PySem.W.Frag}
/-! items -/
theorem OTs.length {G H : Hp} : ∀ {vs : List V} {ts : List SV} {fp : List Addr}, OTs K G H vs ts fp → vs.length = ts.length
  | _, _, _, .nil => rfl
  | _, _, _, .cons _ b _ => congrArg (· + 1) (OTs.length b)
theorem OTs.get {G H : Hp} : ∀ {vs : List V} {ts : List SV} {fp : List Addr} {i : Nat} {t : SV}, OTs K G H vs ts fp → ts[i]? = some t → ∃ v f, vs[i]? = some v ∧ OT K G H v t f ∧ ∀ a ∈ f, a ∈ fp
  | _, _, _, _, _, .nil, e => by simp at e
  | _, _, _, 0, _, .cons (v := v) (f1 := f1) x _ _, e => by
    simp at e; subst e
    exact ⟨v, f1, rfl, x, fun a m => List.mem_append_left _ m⟩
  | _, _, _, i + 1, _, .cons x y _, e => by
    obtain ⟨v, f, h1, h2, h3⟩ := OTs.get (i := i) y (by simpa using e)
    exact ⟨v, f, by simpa using h1, h2, fun a m => List.mem_append_right _ (h3 a m)⟩
theorem OTs.dats {G H : Hp} : ∀ {vs : List V} {ds : List DD} {fp : List Addr}, OTs K G H vs (ds.map .dat) fp → RqA K G vs ds ∧ fp = []
  | _, [], _, h => by
    generalize e : List.map SV.dat [] = ts at h
    cases h with
    | nil => exact ⟨.nil, rfl⟩
    | cons => cases e
  | _, d :: ds, _, h => by
    generalize e : List.map SV.dat (d :: ds) = ts at h
    cases h with
    | nil => cases e
    | cons x y _ =>
      rw [List.map_cons] at e
      injection e with e1 e2
      subst e1 e2
      obtain ⟨r, z⟩ := x.dat_inv
      obtain ⟨r2, z2⟩ := OTs.dats y
      subst z z2
      exact ⟨.cons r r2, rfl⟩
theorem RqA.ots {G H : Hp} : ∀ {vs : List V} {ds : List DD}, RqA K G vs ds → OTs K G H vs (ds.map .dat) []
  | _, _, .nil => .nil
  | _, _, .cons a b => OTs.cons (f1 := []) (f2 := []) (.dat a) (RqA.ots b) (fun _ z => nomatch z)
theorem atI_ots {G H : Hp} {vs : List V} {ts : List SV} {fp : List Addr} {i : Int} {t : SV} (h : OTs K G H vs ts fp) (e : atI ts i = some t) : ∃ v f, atI vs i = some v ∧ OT K G H v t f ∧ ∀ a ∈ f, a ∈ fp := by
  unfold atI at e ⊢
  rw [h.length]
  cases q : ixN ts.length i with
  | none => rw [q] at e; cases e
  | some j =>
    rw [q] at e
    exact h.get e
theorem atI_rqA {G : Hp} {vs : List V} {ts : List DD} {i : Int} {t : DD} (h : RqA K G vs ts) (e : atI ts i = some t) : ∃ v, atI vs i = some v ∧ Rq K G v t := by
  unfold atI at e ⊢
  rw [h.length]
  cases q : ixN ts.length i with
  | none => rw [q] at e; cases e
  | some j =>
    rw [q] at e
    exact h.get e
def ixT : SV → Int → (DD → Prop) → Prop
  | .dat (.lst ds), i, P => ∃ d, atI ds i = some d ∧ P d
  | .dat (.tup ds), i, P => ∃ d, atI ds i = some d ∧ P d
  | .dat (.klst ds), i, P => ∃ d, atI ds i = some d ∧ P d
  | .dat (.str x), i, P => ∃ c, x.length ≤ sizeLine ∧ atI x.cps.toList i = some c ∧ P (.str ⟨#[c]⟩)
  | .own ts, i, P => ∃ d, atI ts i = some (.dat d) ∧ P d
  | .tp ts, i, P => ∃ d, atI ts i = some (.dat d) ∧ P d
  | _, _, _ => False
@[simp] def fIx (fa fb : FO) : FV := fun ρ Q => fa ρ fun x ρ1 => fb ρ1 fun y ρ2 => ∃ t i, resT ρ2 x = some t ∧ resD ρ2 y = some (.int i) ∧ ixT t i fun d => Q d ρ2
variable {fa fb : FO}
theorem v_ix (ha : PDo X io a fa) (hb : PDo X io b fb) (hs : PlainIx b := by exact fun _ _ => rfl) : PDv X io (.Subscript a b pos) (fIx fa fb) := by
  obtain ⟨ta, a1, a2⟩ := ha
  obtain ⟨tb, b1, b2⟩ := hb
  refine ⟨_, pe_ix ix_seq a1 b1 hs, fun B G H σ ρ fp Qd Q hB R hf k => ?_⟩
  refine a2 B G H σ ρ fp _ _ hB R hf fun x ρ1 v1 G1 H1 fp1 n1 o1 hf => ?_
  refine b2 B G1 H1 σ ρ1 fp1 _ _ hB n1.rp hf fun y ρ2 v2 G2 H2 fp2 n2 o2 ⟨t, i, e1, e2, q⟩ => ?_
  have hi := (o2.rqH n2.rp e2).int_inv
  obtain ⟨f, ot, hin⟩ := (o1.next n2).tree n2.rp e1
  have n := n1.trans n2
  have sub := n2.rp.co.sub
  cases t with
  | dat d =>
    have rq := ot.dat_inv.1
    cases d with
    | lst ds =>
      obtain ⟨d, e, q⟩ := q
      obtain ⟨p, xs, ev, h, r⟩ := rq.lst_inv
      obtain ⟨w, ew, rw'⟩ := atI_rqA r e
      exact .inl ⟨p, xs, i, w, ev, hi, .inl (sub.rd h), ew, k d ρ2 w G2 H2 fp2 n rw' q⟩
    | tup ds =>
      obtain ⟨d, e, q⟩ := q
      obtain ⟨p, xs, ev, h, r⟩ := rq.tup_inv
      obtain ⟨w, ew, rw'⟩ := atI_rqA r e
      exact .inr (.inl ⟨p, xs, i, w, ev, hi, sub.t h, ew, k d ρ2 w G2 H2 fp2 n rw' q⟩)
    | klst ds =>
      obtain ⟨d, e, q⟩ := q
      cases rq with
      | klst h r =>
        obtain ⟨w, ew, rw'⟩ := atI_rqA r e
        exact .inl ⟨_, _, i, w, rfl, hi, Sub.l (G := fun _ => none) (fun _ _ z => by cases z) h, ew, k d ρ2 w G2 H2 fp2 n rw' q⟩
    | str x =>
      obtain ⟨c, hz, e, q⟩ := q
      exact .inr (.inr ⟨x, i, c, rq.str_inv, hi, hz, e, k _ ρ2 _ G2 H2 fp2 n (.str _) q⟩)
    | _ => exact False.elim q
  | own ts =>
    obtain ⟨d, e, q⟩ := q
    obtain ⟨p, xs, f', ev, _, h, _, os, _⟩ := ot.own_inv
    obtain ⟨w, fw, ew, ow, _⟩ := atI_ots os e
    exact .inl ⟨p, xs, i, w, ev, hi, .inl (.inl h), ew, k d ρ2 w G2 H2 fp2 n ow.dat_inv.1 q⟩
  | ob => exact False.elim q
  | tp ts =>
    obtain ⟨d, e, q⟩ := q
    obtain ⟨p, xs, ev, h, os⟩ := ot.tp_inv
    obtain ⟨w, fw, ew, ow, _⟩ := atI_ots os e
    exact .inr (.inl ⟨p, xs, i, w, ev, hi, sub.t h, ew, k d ρ2 w G2 H2 fp2 n ow.dat_inv.1 q⟩)

/-! cuts -/
def cutD {α : Type} (xs : List α) (lo hi : Option Int) : List α := (xs.drop (HT.sIx xs.length 0 lo)).take (HT.sIx xs.length xs.length hi - HT.sIx xs.length 0 lo)
theorem cut_rqA {G : Hp} {vs : List V} {ds : List DD} (h : RqA K G vs ds) (lo hi : Option Int) : RqA K G (cutV vs lo hi) (cutD ds lo hi) := by
  unfold cutV cutD
  rw [h.length]
  exact (h.drop _).take _
theorem OTs.take {G H : Hp} : ∀ {vs : List V} {ts : List SV} {fp : List Addr} (n : Nat), OTs K G H vs ts fp → ∃ f, OTs K G H (vs.take n) (ts.take n) f
  | _, _, _, 0, _ => ⟨[], .nil⟩
  | _, _, _, _ + 1, .nil => ⟨[], .nil⟩
  | _, _, _, n + 1, .cons (f1 := f1) (f2 := f2) a b d => by
    have aux : ∀ {vs : List V} {ts : List SV} {fp : List Addr} (n : Nat), OTs K G H vs ts fp → ∃ f, OTs K G H (vs.take n) (ts.take n) f ∧ ∀ a ∈ f, a ∈ fp := by
      intro vs
      induction vs with
      | nil => intro ts fp n h; cases h; exact ⟨[], by simp; exact .nil, fun _ z => nomatch z⟩
      | cons v vs ih =>
        intro ts fp n h
        cases n with
        | zero => exact ⟨[], .nil, fun _ z => nomatch z⟩
        | succ n =>
          cases h with
          | cons a b d =>
            obtain ⟨f, h1, h2⟩ := ih n b
            exact ⟨_, .cons a h1 (fun x m m' => d x m (h2 x m')), fun x m => (List.mem_append.mp m).elim (List.mem_append_left _) fun m => List.mem_append_right _ (h2 x m)⟩
    obtain ⟨f, h, _⟩ := aux (n + 1) (.cons a b d)
    exact ⟨f, h⟩
theorem OTs.drop {G H : Hp} : ∀ {vs : List V} {ts : List SV} {fp : List Addr} (n : Nat), OTs K G H vs ts fp → ∃ f, OTs K G H (vs.drop n) (ts.drop n) f
  | _, _, _, 0, h => ⟨_, h⟩
  | _, _, _, _ + 1, .nil => ⟨[], .nil⟩
  | _, _, _, n + 1, .cons a b d => OTs.drop n b
def slT : SV → Option Int → Option Int → (SV → Prop) → Prop
  | .dat (.lst ds), lo, hi, P => P (.own ((cutD ds lo hi).map .dat))
  | .own ts, lo, hi, P => ∃ ds : List DD, cutD ts lo hi = ds.map SV.dat ∧ P (.own (ds.map SV.dat))
  | .dat (.str x), lo, hi, P => x.length ≤ sizeLine ∧ P (.dat (.str (cutS x lo hi)))
  | _, _, _, _ => False
abbrev FP := Rho → (Option Int → Rho → Prop) → Prop
def PDp (X : Cx) (io : List Nat) (e : Option Expr) (fp' : FP) : Prop := ∃ to, PO X e to ∧ ∀ (B : Bs) G H σ ρ fp (Qd : Option Int → Rho → Prop) (Q : Option Int → Hp → Prop), B.io = io → Rp X.K B G H σ ρ fp → fp' ρ Qd →
  (∀ o ρ' G' H' fp', Nxt X.K B σ G H fp G' H' ρ' fp' → Qd o ρ' → Q o H') → to σ H Q
@[simp] def fNone : FP := fun ρ Q => Q none ρ
@[simp] def fSome (fo : FO) : FP := fun ρ Q => fo ρ fun x ρ1 => ∃ i, resD ρ1 x = some (.int i) ∧ Q (some i) ρ1
theorem s_none : PDp X io none fNone := ⟨_, po_none, fun B G H σ ρ fp Qd Q hB R hf k => k none ρ G H fp (Nxt.refl R) hf⟩
theorem s_some (h : PDo X io e fa) : PDp X io (some e) (fSome fa) := by
  obtain ⟨_, h1, h2⟩ := h
  refine ⟨_, po_some h1, fun B G H σ ρ fp Qd Q hB R hf k => ?_⟩
  refine h2 B G H σ ρ fp _ _ hB R hf fun x ρ1 v1 G1 H1 fp1 n1 o1 ⟨i, e1, q⟩ => ?_
  exact ⟨i, (o1.rqH n1.rp e1).int_inv, k _ ρ1 G1 H1 fp1 n1 q⟩
@[simp] def fSl (fa : FO) (fl fh : FP) : FE := fun ρ Q => fa ρ fun x ρ1 => fl ρ1 fun lo ρ2 => fh ρ2 fun hi ρ3 => ∃ t, resT ρ3 x = some t ∧ slT t lo hi fun r => Q r ρ3
theorem new_own {K : PySem.W.Frag} {B : Bs} {σ : L2.St} {G H G' H' : Hp} {ρ ρ' : Rho} {fp fp' : Nat → List Addr} {vs : List V} {ts : List SV} {fr : List Addr} {Q : VK} (R : Rp K B G H σ ρ fp) (n : Nxt K B σ G H fp G' H' ρ' fp') (o : OTs K G' H' vs ts fr)
    (t1 : ∀ a ∈ fr, ¬ In fp' a) (t2 : ∀ a ∈ fr, H a = none ∨ In fp a)
    (k : ∀ v G'' H'' fp'' fr', Nxt K B σ G H fp G'' H'' ρ' fp'' → OT K G'' H'' v (.own ts) fr' → (∀ a ∈ fr', ¬ In fp'' a) → (∀ a ∈ fr', H a = none ∨ In fp a) → Q v H'') :
    ∀ p, H' p = none → Q (.ref p) (upd H' p (.lst vs)) := fun p hp => by
  have gp : G' p = none := by
    cases e : G' p with
    | none => rfl
    | some u => have := n.rp.co.sub _ _ e; rw [hp] at this; cases this
  have np : p ∉ fr := fun m => by
    obtain ⟨⟨u, h⟩, _⟩ := o.here p m
    rw [hp] at h; cases h
  have n2 := n.trans (Nxt.laid n.rp (o := .lst vs) hp)
  refine k _ _ _ _ (p :: fr) n2 (.own upd_same gp (o.mono (Sub.refl _) (fun a m u e => by rw [upd_ne (fun z : a = p => np (z ▸ m))]; exact e) fun a m => (o.here a m).2) np) (fun a m => ?_) fun a m => ?_
  · rcases List.mem_cons.mp m with z | m
    · subst z
      intro i
      obtain ⟨⟨u, h⟩, _⟩ := n.rp.co.here i
      rw [hp] at h; cases h
    · exact t1 a m
  · rcases List.mem_cons.mp m with z | m
    · subst z
      by_cases q : In fp a
      · exact .inr q
      · exact .inl (n.st.fresh q hp)
    · exact t2 a m
theorem sl_any : SlR X (fun x lo hi H Q => rSlL X.K x lo hi H Q ∨ ∃ z, x = .str z ∧ z.length ≤ sizeLine ∧ Q (.str (cutS z lo hi)) H) := sl_list.or sl_str
theorem e_sl {lo hi : Option Expr} {fl fh : FP} {p2 : Pos} (ha : PDo X io a fa) (hl : PDp X io lo fl) (hh : PDp X io hi fh) : PDe X io (.Subscript a (.Slice lo hi none p2) pos) (fSl fa fl fh) := by
  obtain ⟨ta, a1, a2⟩ := ha
  obtain ⟨tl, l1, l2⟩ := hl
  obtain ⟨th, h1, h2⟩ := hh
  refine ⟨_, pe_slice sl_any a1 l1 h1, fun B G H σ ρ fp Qd Q hB R hf k => ?_⟩
  refine a2 B G H σ ρ fp _ _ hB R hf fun x ρ1 v1 G1 H1 fp1 n1 o1 hf => ?_
  refine l2 B G1 H1 σ ρ1 fp1 _ _ hB n1.rp hf fun lo ρ2 G2 H2 fp2 n2 hf => ?_
  refine h2 B G2 H2 σ ρ2 fp2 _ _ hB n2.rp hf fun hi ρ3 G3 H3 fp3 n3 ⟨t, e1, q⟩ => ?_
  have n := (n1.trans n2).trans n3
  obtain ⟨f, ot, hin⟩ := ((o1.next n2).next n3).tree n3.rp e1
  cases t with
  | dat d =>
    have rq := ot.dat_inv.1
    cases d with
    | lst ds =>
      obtain ⟨p, xs, ev, h, r⟩ := rq.lst_inv
      exact .inl ⟨p, xs, ev, .inl (n3.rp.co.sub.rd h), new_own R n (cut_rqA r lo hi).ots (fun _ z => nomatch z) (fun _ z => nomatch z) fun v G'' H'' fp'' fr' n' ot' t1 t2 => k _ _ _ _ _ _ _ n' ot' t1 t2 q⟩
    | str x =>
      exact .inr ⟨x, rq.str_inv, q.1, k _ _ _ _ _ _ [] n (.dat (.str _)) (fun _ z => nomatch z) (fun _ z => nomatch z) q.2⟩
    | _ => exact False.elim q
  | own ts =>
    obtain ⟨ds, eds, q⟩ := q
    obtain ⟨p, xs, f', ev, _, h, _, os, _⟩ := ot.own_inv
    have : ∃ f, OTs X.K G3 H3 (cutV xs lo hi) (ds.map .dat) f := by
      rw [← eds]
      unfold cutV cutD
      rw [os.length]
      obtain ⟨_, o2⟩ := os.drop (HT.sIx ts.length 0 lo)
      exact o2.take _
    obtain ⟨f2, o2⟩ := this
    obtain ⟨r, _⟩ := o2.dats
    exact .inl ⟨p, xs, ev, .inl (.inl h), new_own R n r.ots (fun _ z => nomatch z) (fun _ z => nomatch z) fun v G'' H'' fp'' fr' n' ot' t1 t2 => k _ _ _ _ _ _ _ n' ot' t1 t2 q⟩
  | ob => exact False.elim q
  | tp => exact False.elim q
/-- xs[::-1] -/
@[simp] def fRev (fa : FO) : FE := fun ρ Q => fa ρ fun x ρ1 => ∃ ds, resT ρ1 x = some (.dat (.lst ds)) ∧ Q (.own (ds.reverse.map .dat)) ρ1
theorem e_rev {k : Nat} {p1 p2 p3 : Pos} (ha : PDo X io a fa) : PDe X io (.Subscript a (.Slice none none (some (.UnaryOp .USub (.Constant (.int 1) k p1) p2)) p3) pos) (fRev fa) := by
  obtain ⟨ta, a1, a2⟩ := ha
  refine ⟨_, pe_revL a1, fun B G H σ ρ fp Qd Q hB R hf k => ?_⟩
  refine a2 B G H σ ρ fp _ _ hB R hf fun x ρ1 v1 G1 H1 fp1 n1 o1 ⟨ds, e1, q⟩ => ?_
  obtain ⟨f, ot, hin⟩ := o1.tree n1.rp e1
  obtain ⟨p, xs, ev, h, r⟩ := ot.dat_inv.1.lst_inv
  exact ⟨p, xs, ev, .inl (n1.rp.co.sub.rd h), new_own R n1 r.reverse.ots (fun _ z => nomatch z) (fun _ z => nomatch z) fun v G'' H'' fp'' fr' n' ot' t1 t2 => k _ _ _ _ _ _ _ n' ot' t1 t2 q⟩

/-! displays -/
abbrev FSs := Rho → (List SV → Rho → Prop) → Prop
def DSv (K : PySem.W.Frag) (io : List Nat) (ta : TA) (fs : FSs) : Prop := ∀ (B : Bs) G H σ ρ fp (Qd : List SV → Rho → Prop) (Q : List V → Hp → Prop), B.io = io → Rp K B G H σ ρ fp → fs ρ Qd →
  (∀ ts ρ' vs G' H' fp' fr, Nxt K B σ G H fp G' H' ρ' fp' → OTs K G' H' vs ts fr → (∀ a ∈ fr, ¬ In fp' a) → (∀ a ∈ fr, H a = none ∨ In fp a) → Qd ts ρ' → Q vs H') → ta σ H Q
def PDs' (X : Cx) (io : List Nat) (es : List Expr) (fs : FSs) : Prop := ∃ ta, PA X es ta ∧ DSv X.K io ta fs
@[simp] def gNil : FSs := fun ρ Q => Q [] ρ
@[simp] def gCons (fa : FE) (fr : FSs) : FSs := fun ρ Q => fa ρ fun x ρ1 => fr ρ1 fun xs ρ2 => Q (x :: xs) ρ2
theorem g_nil : PDs' X io [] gNil := ⟨_, pa_nil, fun B G H σ ρ fp Qd Q hB R hf k => k [] ρ [] G H fp [] (Nxt.refl R) .nil (fun _ z => nomatch z) (fun _ z => nomatch z) hf⟩
theorem g_cons {es : List Expr} {fe : FE} {fr : FSs} (ha : PDe X io e fe) (hr : PDs' X io es fr) (hs : starEach (e :: es) X.env = (false, eval e X.env) :: starEach es X.env := by rfl) : PDs' X io (e :: es) (gCons fe fr) := by
  obtain ⟨_, a1, a2⟩ := ha
  obtain ⟨_, b1, b2⟩ := hr
  refine ⟨_, pa_cons a1 b1 hs, fun B G H σ ρ fp Qd Q hB R hf k => ?_⟩
  refine a2 B G H σ ρ fp _ _ hB R hf fun x ρ1 v1 G1 H1 fp1 f1 n1 o1 t1 t1' hf => ?_
  refine b2 B G1 H1 σ ρ1 fp1 _ _ hB n1.rp hf fun xs ρ2 vs G2 H2 fp2 f2 n2 os t2 t2' q => ?_
  have o1' : OT X.K G2 H2 v1 x f1 := o1.mono n2.st.ex (fun a m o h => n2.st.keep a o (t1 a m) h) fun a m => by
    obtain ⟨⟨u, h⟩, g⟩ := o1.here a m
    exact n2.st.hid a u (t1 a m) h g
  refine k _ ρ2 _ G2 H2 fp2 (f1 ++ f2) (n1.trans n2) (.cons o1' os fun a m m' => ?_) (fun a m => ?_) (fun a m => ?_) q
  · rcases t2' a m' with z | z
    · obtain ⟨⟨u, h⟩, _⟩ := o1.here a m
      rw [z] at h; cases h
    · exact t1 a m z
  · rcases List.mem_append.mp m with m | m
    · intro i
      rcases n2.inn a i with z | z
      · exact t1 a m z
      · obtain ⟨⟨u, h⟩, _⟩ := o1.here a m
        rw [z] at h; cases h
    · exact t2 a m
  · rcases List.mem_append.mp m with m | m
    · exact t1' a m
    · rcases t2' a m with z | z
      · by_cases q : In fp a
        · exact .inr q
        · exact .inl (n1.st.fresh q z)
      · exact (n1.inn a z).symm
@[simp] def fLst (fs : FSs) : FE := fun ρ Q => fs ρ fun ts ρ1 => ts.length ≤ sizeLine ∧ Q (.own ts) ρ1
theorem e_lst {es : List Expr} {fs : FSs} (h : PDs' X io es fs) : PDe X io (.List es pos) (fLst fs) := by
  obtain ⟨_, a1, a2⟩ := h
  refine ⟨_, pe_lst a1, fun B G H σ ρ fp Qd Q hB R hf k => ?_⟩
  refine a2 B G H σ ρ fp _ _ hB R hf fun ts ρ1 vs G1 H1 fp1 f1 n1 os t1 t1' ⟨hz, q⟩ => ?_
  exact ⟨by rw [os.length]; exact hz, new_own R n1 os t1 t1' fun v G'' H'' fp'' fr' n' ot' u1 u2 => k _ _ _ _ _ _ _ n' ot' u1 u2 q⟩
@[simp] def fTup (fs : FSs) : FV := fun ρ Q => fs ρ fun ts ρ1 => ts.length ≤ sizeLine ∧ Q (.tup (ts.map SV.data)) ρ1
theorem Nxt.sealeds {K : PySem.W.Frag} {B : Bs} {σ : L2.St} {G H G' H' : Hp} {ρ ρ' : Rho} {fp fp' : Nat → List Addr} {v : List V} {r : List SV} {fr : List Addr} (R : Rp K B G H σ ρ fp) (n : Nxt K B σ G H fp G' H' ρ' fp') (ot : OTs K G' H' v r fr) (h1 : ∀ a ∈ fr, ¬ In fp' a) (h2 : ∀ a ∈ fr, H a = none ∨ In fp a) :
    Nxt K B σ G H fp (sealH G' H' fr) H' ρ' fp' ∧ RqA K (sealH G' H' fr) v (r.map SV.data) := by
  have g0 : ∀ a ∈ fr, G' a = none := fun a m => (ot.here a m).2
  have sub : Sub (sealH G' H' fr) H' := fun a o e => by
    by_cases m : a ∈ fr
    · rw [sealH_in m] at e; exact e
    · rw [sealH_out m] at e; exact n.rp.co.sub a o e
  refine ⟨⟨⟨n.rp.co.grow (sealH_sub g0) (fun _ _ _ e => e) (fun a m => ?_) sub, n.rp.stp.sealed g0 fun a m => ?_, n.rp.own, n.rp.io, n.rp.lo.trans (sealH_sub g0)⟩, n.st.sealed g0 h2, n.inn⟩, by rw [← SV.datas_eq]; exact ot.sealed (sealH_sub g0) fun a m o e => by rw [sealH_in m]; exact e⟩
  · rw [sealH_out fun z => h1 a z m]; exact (n.rp.co.here m).2
  · rcases h2 a m with z | z
    · by_cases q : In B.fp0 a
      · exact .inr q
      · exact .inl (R.stp.fresh q z)
    · exact (R.own a z).symm
theorem v_tup {es : List Expr} {fs : FSs} {x1} (h : PDs' X io es fs) : PDv X io (.Tuple es x1 pos) (fTup fs) := by
  obtain ⟨_, a1, a2⟩ := h
  refine ⟨_, pe_tup a1, fun B G H σ ρ fp Qd Q hB R hf k => ?_⟩
  refine a2 B G H σ ρ fp _ _ hB R hf fun ts ρ1 vs G1 H1 fp1 f1 n1 os t1 t1' ⟨hz, q⟩ => ?_
  obtain ⟨n2, rs⟩ := Nxt.sealeds R n1 os t1 t1'
  refine ⟨by rw [os.length]; exact hz, fun p hp => ?_⟩
  have n3 := n2.trans (Nxt.stand n2.rp (o := .tup vs) hp)
  refine k _ ρ1 _ _ _ fp1 n3 (.tup (.inl (.inl upd_same)) (rs.mono fun a o e => ?_)) q
  have ne : a ≠ p := fun z => by
    have := n2.rp.co.sub _ _ e
    rw [z, hp] at this; cases this
  rw [upd_ne ne]; exact e
end
end DL

namespace DL
open PySem PySem.Spec PyProof.Rows L2
/-! ### defs, called where no repr is under way -/
structure RoomG (k : Nat) (A : Around) : Prop where
  r : Room k A
  g : A.guards = some []
theorem RoomG.mono {j k : Nat} {A : Around} (h : RoomG k A) (l : j ≤ k) : RoomG j A := ⟨h.r.mono l, h.g⟩
structure FnG (P : Program) (w : World) (K : PySem.W.Frag) (mg : Str → Option Value) (base : Heap) (CX : CXT) (k : Nat) (f : Addr) (fd : FuncData) (ps : List Str) (sp : Sp) : Prop where
  len : ∀ vs H Q E, sp vs H Q E → vs.length = ps.length
  run : ∀ (A : Around) (outer : List Env) (s : Shared) (H : Hp) (args : Args) (us : List Value) (vs : List V) (Q : VK) (E : XK), RoomG k A → Env0 P w K mg base A outer s H → BindsTo s fd args (ps.zip us) → Vals vs us → sp vs H Q E →
    codeAny (model P w) A (.call (.ref f) args) (CR CX outer P w H s Q E) s
section
variable {CX : CXT} {P : Program} {w : World} {K : PySem.W.Frag} {mg : Str → Option Value} {base : Heap} {k : Nat} {f : Addr} {fd : FuncData} {ps : List Str} {sp : Sp}
theorem FnG.mono {j : Nat} (F : FnG P w K mg base CX j f fd ps sp) (h : j ≤ k) : FnG P w K mg base CX k f fd ps sp := ⟨F.len, fun A outer s H args us vs Q E hr => F.run A outer s H args us vs Q E (hr.mono h)⟩
theorem FnG.imp {sp' : Sp} (F : FnG P w K mg base CX k f fd ps sp) (h : ∀ vs H Q E, sp' vs H Q E → sp vs H Q E) : FnG P w K mg base CX k f fd ps sp' :=
  ⟨fun vs H Q E q => F.len vs H Q E (h _ _ _ _ q), fun A outer s H args us vs Q E hr he hb hv hs => F.run A outer s H args us vs Q E hr he hb hv (h _ _ _ _ hs)⟩
theorem fn_ofG {name qual : Str} {params : Arguments} {body : List Stmt} {scope : Scope} {dV kV doc pm cdv ct oc : Value} {an od : Option Addr}
    {osl : Array (Option Value)} {N : List Str} (lk : K.lookup f = some ⟨oc, od, .func (PySem.W.fnOf name qual params body scope dV kV doc pm an cdv ct), osl⟩) (hcd : PySem.W.codeIn K cdv qual = true) (S : FnScope N ps scope)
    (len : ∀ vs H Q E, sp vs H Q E → vs.length = ps.length)
    (hbody : ∀ (A : Around) (outer : List Env) (s : Shared) (H : Hp) (vs : List V) (Q : VK) (E : XK), RoomG k (A.deeper (envOfC qual scope s.heap.objs.size f cdv)) → sp vs H Q E →
      ∃ t, PSs (cxOf CX P w K mg base N qual scope f cdv A outer s H E) body t ∧ t { nx := fun _ H' => Q .non H', rt := Q } (start N vs) H) :
    FnG P w K mg base CX (k + 1) f (PySem.W.fnOf name qual params body scope dV kV doc pm an cdv ct) ps sp := by
  refine ⟨len, fun A outer s H args us vs Q E hr e0 hb r hsp => ?_⟩
  have hl := len _ _ _ _ hsp
  have KX : K.In s.heap := e0.mod.kin.keeps fun b o e => (e0.bs b o e).1
  have lim : s.heap.NoLimit := e0.mod.nolimit.keeps fun b o e => (e0.bs b o e).1
  have hkind : ∀ y ∈ ps.zip us, scope.names.lookup y.1 = some .local ∨ (scope.names.lookup y.1 = some .cell ∧ ((cellsFrom (s.heap.objs.size + 1) scope.names []).lookup y.1).isSome = true) := fun ⟨n, v⟩ hy => by
    rcases S.par n (List.of_mem_zip hy).1 with q | q
    · exact .inl q
    · exact .inr ⟨q, PySem.W.cellsFrom_some _ _ _ (.inl q)⟩
  refine codeAny_call_function hr.r.depth (KX _ _ lk) rfl S.co S.gen rfl (PySem.W.codeRec_of KX hcd) (hb _ _ _ _ ?_)
  refine wpAny_newFunctionEnv_cells S.kind hkind fun env he s1 x => ?_
  subst he
  refine ⟨lim.keeps x.toInCall.keep, codeAny_func ?_⟩
  obtain ⟨t, ht, hq⟩ := hbody A outer s H vs Q E ⟨hr.r.deeper _, hr.g⟩ hsp
  have I : Inv (cxOf CX P w K mg base N qual scope f cdv A outer s H E) [] (start N vs) H s1 := inv_start S hr.r.hd e0 hl r x
  refine wpAny_mono (ht.run [] s1 (start N vs) H _ I hq) (fun fl s' hs => ?_) fun e s' hs => hs
  have fin : ∀ {σ' : L2.St} {H' : Hp} {v : V} {u : Value}, Inv (cxOf CX P w K mg base N qual scope f cdv A outer s H E) [] σ' H' s' → RelV v u → Q v H' → CE outer P w H s Q u s' :=
    fun {σ' H' v u} J rv q => ⟨v, H', J.os, J.bare, J.base, J.hok, rv, q⟩
  cases fl with
  | ret u =>
    obtain ⟨v, σ', H', J, rv, q⟩ := hs
    exact fin J rv q
  | next =>
    obtain ⟨σ', H', J, q⟩ := hs
    exact fin (v := V.non) (u := Value.none) J rfl q
  | brk =>
    obtain ⟨_, _, _, q⟩ := hs
    exact False.elim q
  | cont =>
    obtain ⟨_, _, _, q⟩ := hs
    exact False.elim q
end
section
variable {X : Cx} {CX : CXT} {k : Nat} {f C : Addr} {fd : FuncData} {ps : List Str} {sp : Sp} {E : XK} {x m : Str} {p pos apos : Pos} {e o : Expr} {es : List Expr} {ta : TE} {t : TA}
theorem run_fnG {pins : List (Addr × Obj)} {σ : L2.St} {H : Hp} {s : Shared} {Q : VK} {us : List Value} {vs : List V} (F : FnG X.prog X.w X.K X.mg X.base CX k f fd ps sp) (hr : RoomG k X.A) (hb : Binds X.K fd ps []) (hx : Passes CX X E)
    (I : Inv X pins σ H s) (r : Vals vs us) (h : sp vs H Q E) : wpAny (model X.prog X.w) X.A (call (.ref f) us) (EP X pins σ Q) X.xe s := by
  have hl : (us ++ []).length = ps.length := by rw [List.append_nil, ← r.length]; exact F.len _ _ _ _ h
  have hb2 := hb s us I.kIn hl
  rw [List.append_nil] at hb2
  refine wpAny_call (codeAny_mono (F.run X.A X.stack s H ⟨us, []⟩ us vs Q E hr I.env0 hb2 r h) fun r s' hq => ?_)
  cases r with
  | error e => exact hx pins σ H s e s' I hq
  | ok fl =>
    cases fl with
    | ret u => exact I.after hq
    | next => exact False.elim hq
    | brk => exact False.elim hq
    | cont => exact False.elim hq
theorem pe_callG (F : FnG X.prog X.w X.K X.mg X.base CX k f fd ps sp) (hr : RoomG k X.A) (hg : Gl X x) (hm : X.mg x = some (.ref f)) (hk : PySem.W.keepIn X.K (.ref f) = true) (hb : Binds X.K fd ps []) (hx : Passes CX X E)
    (ha : PA X (e :: es) t) (hdb : (x == ("__debug__" : Str)) = false := by decide) (he : starEach (e :: es) X.env = (false, eval e X.env) :: starEach es X.env := by rfl) (hpl : (backTo pos (starEach es X.env)).any (·.1) = false := by rfl) :
    PE X (.Call (.Name x p) (e :: es) [] pos) (tCall sp [] E t) := by
  refine ⟨fun pins s σ H Q I h => ?_⟩
  refine wpAny_Call_Name_kw (ld_glob I hg hm ?_ hdb)
  refine PySem.W.callWith_K (h₀ := X.base) I.ok.mod.kin hk (thn (ha.run pos pins s σ H _ I h) fun us s1 ⟨vs, H1, I1, r, q⟩ => ⟨I1.kIn, ?_⟩) he hpl
  have q' : sp (vs ++ []) H1 Q E := q
  rw [List.append_nil] at q'
  exact run_fnG F hr hb hx I1 r q'
theorem pe_callG0 (F : FnG X.prog X.w X.K X.mg X.base CX k f fd ps sp) (hr : RoomG k X.A) (hg : Gl X x) (hm : X.mg x = some (.ref f)) (hk : PySem.W.keepIn X.K (.ref f) = true) (hb : Binds X.K fd ps []) (hx : Passes CX X E)
    (hdb : (x == ("__debug__" : Str)) = false := by decide) : PE X (.Call (.Name x p) [] [] pos) (tCall sp [] E tNil) := by
  refine ⟨fun pins s σ H Q I h => ?_⟩
  refine wpAny_Call_Name_kw (ld_glob I hg hm ?_ hdb)
  exact PySem.W.callWith_K0 I.kIn hk (run_fnG (us := []) F hr hb hx I .nil h)
variable {ks : List Str} {kws : List Keyword} {tk : TA} {g : List Value → List Value → List Value} {gV : List V → List V → List V}
theorem run_fnkG {pins : List (Addr × Obj)} {σ : L2.St} {H : Hp} {s : Shared} {Q : VK} {us ws : List Value} {vs zs : List V} (F : FnG X.prog X.w X.K X.mg X.base CX k f fd ps sp) (hr : RoomG k X.A) (hb : KBinds X.K fd ps ks g gV) (hx : Passes CX X E)
    (I : Inv X pins σ H s) (r : Vals vs us) (rz : Vals zs ws) (h : sp (gV vs zs) H Q E) : wpAny (model X.prog X.w) X.A (call (.ref f) us (ks.zip ws)) (EP X pins σ Q) X.xe s := by
  have r2 := hb.rel r rz
  have hl : (g us ws).length = ps.length := by rw [← r2.length]; exact F.len _ _ _ _ h
  refine wpAny_call (codeAny_mono (F.run X.A X.stack s H ⟨us, ks.zip ws⟩ (g us ws) (gV vs zs) Q E hr I.env0 (hb.to s us ws I.kIn hl) r2 h) fun r s' hq => ?_)
  cases r with
  | error e => exact hx pins σ H s e s' I hq
  | ok fl =>
    cases fl with
    | ret u => exact I.after hq
    | next => exact False.elim hq
    | brk => exact False.elim hq
    | cont => exact False.elim hq
end

/-! ### what a def is worth, by data -/
abbrev Ctr := List SV → (SV → List SV → Prop) → Prop
def spD (K : PySem.W.Frag) (F : Ctr) : Sp := fun vs H Q _ => ∃ G as fp Qd, Co K G H (vs.map some) (as.map some) fp ∧ F as Qd ∧ ∀ r as' v G' H' fp' fr, Co K G' H' (vs.map some) (as'.map some) fp' →
  Stp (In fp) G H G' H' → (∀ a, In fp' a → In fp a ∨ H a = none) → OT K G' H' v r fr → (∀ a ∈ fr, ¬ In fp' a) → (∀ a ∈ fr, H a = none ∨ In fp a) → Qd r as' → Q v H'
/-- the def x stands, and is worth F -/
def Hs (P : Program) (w : World) (K : PySem.W.Frag) (mg : Str → Option Value) (base : Heap) (x : Str) (ps : List Str) (k : Nat) (F : Ctr) : Prop :=
  ∃ f fd, mg x = some (.ref f) ∧ PySem.W.keepIn K (.ref f) = true ∧ Binds K fd ps [] ∧ FnG P w K mg base CX0 k f fd ps (spD K F)
/-- an argument: a tree given away, or a slot -/
inductive AV where
  | val (t : SV)
  | ref (i : Nat)
inductive AVR (K : PySem.W.Frag) (G H : Hp) (σ : L2.St) : List V → List AV → List Addr → Prop
  | nil : AVR K G H σ [] [] []
  | val {v : V} {t : SV} {vs : List V} {as : List AV} {f1 f2 : List Addr} : OT K G H v t f1 → AVR K G H σ vs as f2 → (∀ a ∈ f1, a ∉ f2) → AVR K G H σ (v :: vs) (.val t :: as) (f1 ++ f2)
  | ref {v : V} {i : Nat} {vs : List V} {as : List AV} {f2 : List Addr} : σ[i]? = some (some v) → AVR K G H σ vs as f2 → AVR K G H σ (v :: vs) (.ref i :: as) f2
theorem AVR.mono {K : PySem.W.Frag} {G H G' H' : Hp} {σ : L2.St} (s : Sub G G') : ∀ {vs : List V} {as : List AV} {fr : List Addr}, AVR K G H σ vs as fr → (∀ a ∈ fr, ∀ o, H a = some o → H' a = some o) → (∀ a ∈ fr, G' a = none) → AVR K G' H' σ vs as fr
  | _, _, _, .nil, _, _ => .nil
  | _, _, _, .val a b d, k, z => .val (a.mono s (fun x m => k x (List.mem_append_left _ m)) fun x m => z x (List.mem_append_left _ m)) (AVR.mono s b (fun x m => k x (List.mem_append_right _ m)) fun x m => z x (List.mem_append_right _ m)) d
  | _, _, _, .ref a b, k, z => .ref a (AVR.mono s b k z)
theorem AVR.here {K : PySem.W.Frag} {G H : Hp} {σ : L2.St} : ∀ {vs : List V} {as : List AV} {fr : List Addr}, AVR K G H σ vs as fr → ∀ a ∈ fr, (∃ o, H a = some o) ∧ G a = none
  | _, _, _, .nil, a, m => by cases m
  | _, _, _, .val x y _, a, m => (List.mem_append.mp m).elim (x.here a) (AVR.here y a)
  | _, _, _, .ref _ y, a, m => AVR.here y a m
abbrev FAs := Rho → (List AV → Rho → Prop) → Prop
def DAs (K : PySem.W.Frag) (io : List Nat) (ta : TA) (fa : FAs) : Prop := ∀ (B : Bs) G H σ ρ fp (Qd : List AV → Rho → Prop) (Q : List V → Hp → Prop), B.io = io → Rp K B G H σ ρ fp → fa ρ Qd →
  (∀ as ρ' vs G' H' fp' fr, Nxt K B σ G H fp G' H' ρ' fp' → AVR K G' H' σ vs as fr → (∀ a ∈ fr, ¬ In fp' a) → (∀ a ∈ fr, H a = none ∨ In fp a) → Qd as ρ' → Q vs H') → ta σ H Q
def PDas (X : Cx) (io : List Nat) (es : List Expr) (fa : FAs) : Prop := ∃ ta, PA X es ta ∧ DAs X.K io ta fa
@[simp] def aNil : FAs := fun ρ Q => Q [] ρ
@[simp] def aVal (fa : FE) (fr : FAs) : FAs := fun ρ Q => fa ρ fun x ρ1 => fr ρ1 fun xs ρ2 => Q (.val x :: xs) ρ2
@[simp] def aRef (i : Nat) (fr : FAs) : FAs := fun ρ Q => (∃ t, ρ[i]? = some (some t)) ∧ fr ρ fun xs ρ2 => Q (.ref i :: xs) ρ2
section
variable {X : Cx} {io : List Nat} {e : Expr} {es : List Expr} {fr : FAs}
theorem a_nil : PDas X io [] aNil := ⟨_, pa_nil, fun B G H σ ρ fp Qd Q hB R hf k => k [] ρ [] G H fp [] (Nxt.refl R) .nil (fun _ z => nomatch z) (fun _ z => nomatch z) hf⟩
theorem a_val {fe : FE} (ha : PDe X io e fe) (hr : PDas X io es fr) (hs : starEach (e :: es) X.env = (false, eval e X.env) :: starEach es X.env := by rfl) : PDas X io (e :: es) (aVal fe fr) := by
  obtain ⟨_, a1, a2⟩ := ha
  obtain ⟨_, b1, b2⟩ := hr
  refine ⟨_, pa_cons a1 b1 hs, fun B G H σ ρ fp Qd Q hB R hf k => ?_⟩
  refine a2 B G H σ ρ fp _ _ hB R hf fun x ρ1 v1 G1 H1 fp1 f1 n1 o1 t1 t1' hf => ?_
  refine b2 B G1 H1 σ ρ1 fp1 _ _ hB n1.rp hf fun xs ρ2 vs G2 H2 fp2 f2 n2 os t2 t2' q => ?_
  have o1' : OT X.K G2 H2 v1 x f1 := o1.mono n2.st.ex (fun a m o h => n2.st.keep a o (t1 a m) h) fun a m => by
    obtain ⟨⟨u, h⟩, g⟩ := o1.here a m
    exact n2.st.hid a u (t1 a m) h g
  refine k _ ρ2 _ G2 H2 fp2 (f1 ++ f2) (n1.trans n2) (.val o1' os fun a m m' => ?_) (fun a m => ?_) (fun a m => ?_) q
  · rcases t2' a m' with z | z
    · obtain ⟨⟨u, h⟩, _⟩ := o1.here a m
      rw [z] at h; cases h
    · exact t1 a m z
  · rcases List.mem_append.mp m with m | m
    · intro i
      rcases n2.inn a i with z | z
      · exact t1 a m z
      · obtain ⟨⟨u, h⟩, _⟩ := o1.here a m
        rw [z] at h; cases h
    · exact t2 a m
  · rcases List.mem_append.mp m with m | m
    · exact t1' a m
    · rcases t2' a m with z | z
      · by_cases q : In fp a
        · exact .inr q
        · exact .inl (n1.st.fresh q z)
      · exact (n1.inn a z).symm
theorem a_ref {te : TE} (i : Nat) (h : PE X e te) (ht : te = tVar i) (hr : PDas X io es fr) (hs : starEach (e :: es) X.env = (false, eval e X.env) :: starEach es X.env := by rfl) : PDas X io (e :: es) (aRef i fr) := by
  subst ht
  obtain ⟨_, b1, b2⟩ := hr
  refine ⟨_, pa_cons h b1 hs, fun B G H σ ρ fp Qd Q hB R hf k => ?_⟩
  obtain ⟨⟨t, e1⟩, hf⟩ := hf
  obtain ⟨v, e2, _⟩ := R.co.slot i t e1
  refine ⟨v, e2, ?_⟩
  exact b2 B G H σ ρ fp _ _ hB R hf fun xs ρ2 vs G2 H2 fp2 f2 n2 os t2 t2' q => k _ ρ2 _ G2 H2 fp2 f2 n2 (.ref e2 os) t2 t2' q
end
/-! the arguments as a caller's state, and back -/
@[simp] def resA (ρ : Rho) : List AV → Option (List SV)
  | [] => some []
  | .val t :: r => (resA ρ r).map (t :: ·)
  | .ref i :: r => match ρ[i]?.join, resA ρ r with
    | some t, some ts => some (t :: ts)
    | _, _ => none
@[simp] def refs : List AV → List Nat
  | [] => []
  | .val _ :: r => refs r
  | .ref i :: r => i :: refs r
@[simp] def wb (ρ : Rho) : List AV → List SV → Rho
  | .ref i :: r, t :: ts => wb (ρ.set i (some t)) r ts
  | .val _ :: r, _ :: ts => wb ρ r ts
  | _, _ => ρ
def shiftF (f : List Addr) (g : Nat → List Addr) : Nat → List Addr
  | 0 => f
  | n + 1 => g n
theorem join_some {ρ : Rho} {i : Nat} {t : SV} (h : ρ[i]?.join = some t) : ρ[i]? = some (some t) := by
  cases q : ρ[i]? with
  | none => rw [q] at h; cases h
  | some z => rw [q] at h; simp at h; rw [h]
section
variable {K : PySem.W.Frag} {B : Bs} {σ : L2.St} {G H G' H' : Hp} {ρ : Rho} {fp fp' : Nat → List Addr}
theorem wb_len : ∀ (avs : List AV) (ts : List SV) (ρ : Rho), (wb ρ avs ts).length = ρ.length
  | [], _, _ => rfl
  | .ref i :: r, [], _ => rfl
  | .val _ :: r, [], _ => rfl
  | .ref i :: r, t :: ts, ρ => by rw [wb, wb_len r ts, List.length_set]
  | .val _ :: r, t :: ts, ρ => by rw [wb, wb_len r ts]
theorem wb_out {i : Nat} : ∀ (avs : List AV) (ts : List SV) (ρ : Rho), i ∉ refs avs → (wb ρ avs ts)[i]? = ρ[i]?
  | [], _, _, _ => rfl
  | .ref j :: r, [], _, _ => rfl
  | .val _ :: r, [], _, _ => rfl
  | .ref j :: r, t :: ts, ρ, h => by
    have h1 : i ≠ j := fun e => h (by rw [e]; exact List.mem_cons_self)
    rw [wb, wb_out r ts _ fun m => h (List.mem_cons_of_mem _ m), List.getElem?_set_ne (Ne.symm h1)]
  | .val _ :: r, t :: ts, ρ, h => by rw [wb, wb_out r ts _ h]
theorem wb_in {i k : Nat} {t : SV} : ∀ (avs : List AV) (ts : List SV) (ρ : Rho), (refs avs).Nodup → avs[k]? = some (.ref i) → ts[k]? = some t → i < ρ.length → (wb ρ avs ts)[i]? = some (some t) := by
  intro avs
  induction avs generalizing k with
  | nil => intro ts ρ _ h; simp at h
  | cons a r ih =>
    intro ts ρ nd h1 h2 h3
    cases ts with
    | nil => simp at h2
    | cons u ts =>
      cases k with
      | zero =>
        simp at h1 h2
        subst h1 h2
        rw [wb, wb_out r ts _ (List.nodup_cons.mp nd).1, List.getElem?_set_self h3]
      | succ k =>
        cases a with
        | val z => rw [wb]; exact ih ts ρ nd (by simpa using h1) (by simpa using h2) h3
        | ref j => rw [wb]; exact ih ts _ (List.nodup_cons.mp nd).2 (by simpa using h1) (by simpa using h2) (by rw [List.length_set]; exact h3)
theorem refs_at {i : Nat} : ∀ {avs : List AV}, i ∈ refs avs → ∃ k : Nat, avs[k]? = some (AV.ref i)
  | [], h => by cases h
  | .val _ :: r, h => let ⟨k, e⟩ := refs_at (avs := r) h; ⟨k + 1, by simpa using e⟩
  | .ref j :: r, h => by
    rcases List.mem_cons.mp h with e | h
    · subst e; exact ⟨0, rfl⟩
    · obtain ⟨k, e⟩ := refs_at h
      exact ⟨k + 1, by simpa using e⟩
theorem refs_of {i k : Nat} : ∀ {avs : List AV}, avs[k]? = some (.ref i) → i ∈ refs avs := by
  intro avs
  induction avs generalizing k with
  | nil => intro h; simp at h
  | cons a r ih =>
    intro h
    cases k with
    | zero => simp at h; subst h; exact List.mem_cons_self
    | succ k =>
      have := ih (k := k) (by simpa using h)
      cases a with
      | val _ => exact this
      | ref _ => exact List.mem_cons_of_mem _ this
/-- the arguments -/
theorem args_co (c : Co K G H σ ρ fp) : ∀ {vs : List V} {avs : List AV} {fr : List Addr} {as : List SV}, AVR K G H σ vs avs fr → (∀ a ∈ fr, ¬ In fp a) → (refs avs).Nodup → resA ρ avs = some as →
    ∃ g, Co K G H (vs.map some) (as.map some) g ∧ (∀ (k : Nat) a, a ∈ g k → (a ∈ fr ∧ ∃ t, avs[k]? = some (.val t)) ∨ ∃ i, avs[k]? = some (.ref i) ∧ a ∈ fp i) ∧ vs.length = avs.length ∧ as.length = avs.length ∧ ∀ (k i : Nat), avs[k]? = some (.ref i) → ∃ v, vs[k]? = some v ∧ σ[i]? = some (some v)
  | _, _, _, _, .nil, _, _, e => by
    have : [] = _ := Option.some.inj e
    subst this
    exact ⟨fun _ => [], ⟨rfl, c.sub, fun i t h => by simp at h, fun _ _ => rfl, fun _ _ _ h => (by cases h)⟩, fun _ _ h => (by cases h), rfl, rfl, fun k i h => by simp at h⟩
  | _, _, _, _, .val (v := v) (t := t) (vs := vs) (as := as) (f1 := f1) (f2 := f2) o r d, ho, nd, e => by
    unfold resA at e
    cases q : resA ρ as with
    | none => rw [q] at e; cases e
    | some us =>
      rw [q] at e
      have := Option.some.inj e
      subst this
      obtain ⟨g, cg, hg, l1, l2, hr⟩ := args_co c r (fun a m => ho a (List.mem_append_right _ m)) nd q
      refine ⟨shiftF f1 g, ⟨by simp; exact l1.trans l2.symm, c.sub, fun i u h => ?_, fun i h => ?_, fun i j a h1 h2 => ?_⟩, fun k a h => ?_, congrArg (· + 1) l1, congrArg (· + 1) l2, fun k i h => ?_⟩
      · cases i with
        | zero => simp at h; subst h; exact ⟨v, rfl, o⟩
        | succ i =>
          obtain ⟨w, e1, ow⟩ := cg.slot i u (by simpa using h)
          exact ⟨w, by simpa using e1, ow⟩
      · cases i with
        | zero => exact absurd rfl (h t)
        | succ i => exact cg.nil i fun u e => h u (by simpa using e)
      · cases i with
        | zero =>
          cases j with
          | zero => rfl
          | succ j =>
            rcases hg j a h2 with ⟨m, _⟩ | ⟨i, _, m⟩
            · exact absurd m (d a h1)
            · exact absurd ⟨i, m⟩ (ho a (List.mem_append_left _ h1))
        | succ i =>
          cases j with
          | zero =>
            rcases hg i a h1 with ⟨m, _⟩ | ⟨i, _, m⟩
            · exact absurd m (d a h2)
            · exact absurd ⟨i, m⟩ (ho a (List.mem_append_left _ h2))
          | succ j => exact congrArg (· + 1) (cg.dis i j a h1 h2)
      · cases k with
        | zero => exact .inl ⟨List.mem_append_left _ h, t, rfl⟩
        | succ k =>
          rcases hg k a h with ⟨m, u, e⟩ | ⟨i, e, m⟩
          · exact .inl ⟨List.mem_append_right _ m, u, by simpa using e⟩
          · exact .inr ⟨i, by simpa using e, m⟩
      · cases k with
        | zero => simp at h
        | succ k =>
          obtain ⟨w, e1, e2⟩ := hr k i (by simpa using h)
          exact ⟨w, by simpa using e1, e2⟩
  | _, _, _, _, .ref (v := v) (i := i0) (vs := vs) (as := as) (f2 := f2) o r, ho, nd, e => by
    unfold resA at e
    cases q0 : ρ[i0]?.join with
    | none => rw [q0] at e; simp at e
    | some t =>
      cases q : resA ρ as with
      | none => rw [q0, q] at e; cases e
      | some us =>
        rw [q0, q] at e
        have := Option.some.inj e
        subst this
        have nd' : i0 ∉ refs as ∧ (refs as).Nodup := List.nodup_cons.mp nd
        obtain ⟨g, cg, hg, l1, l2, hr⟩ := args_co c r ho nd'.2 q
        obtain ⟨w, e1, ot⟩ := c.slot i0 t (join_some q0)
        rw [o] at e1
        have : v = w := by injection e1 with z; injection z
        subst this
        refine ⟨shiftF (fp i0) g, ⟨by simp; exact l1.trans l2.symm, c.sub, fun i u h => ?_, fun i h => ?_, fun i j a h1 h2 => ?_⟩, fun k a h => ?_, congrArg (· + 1) l1, congrArg (· + 1) l2, fun k i h => ?_⟩
        · cases i with
          | zero => simp at h; subst h; exact ⟨v, rfl, ot⟩
          | succ i =>
            obtain ⟨w, e1, ow⟩ := cg.slot i u (by simpa using h)
            exact ⟨w, by simpa using e1, ow⟩
        · cases i with
          | zero => exact absurd rfl (h t)
          | succ i => exact cg.nil i fun u e => h u (by simpa using e)
        · have clash : ∀ j, a ∈ g j → a ∈ fp i0 → False := fun j h2 h1 => by
            rcases hg j a h2 with ⟨m, _⟩ | ⟨i, e, m⟩
            · exact ho a m ⟨i0, h1⟩
            · have := c.dis i0 i a h1 m
              subst this
              exact nd'.1 (refs_of e)
          cases i with
          | zero =>
            cases j with
            | zero => rfl
            | succ j => exact (clash j h2 h1).elim
          | succ i =>
            cases j with
            | zero => exact (clash i h1 h2).elim
            | succ j => exact congrArg (· + 1) (cg.dis i j a h1 h2)
        · cases k with
          | zero => exact .inr ⟨i0, rfl, h⟩
          | succ k =>
            rcases hg k a h with ⟨m, u, e⟩ | ⟨i, e, m⟩
            · exact .inl ⟨m, u, by simpa using e⟩
            · exact .inr ⟨i, by simpa using e, m⟩
        · cases k with
          | zero => simp at h; subst h; exact ⟨v, rfl, o⟩
          | succ k =>
            obtain ⟨w, e1, e2⟩ := hr k i (by simpa using h)
            exact ⟨w, by simpa using e1, e2⟩
open Classical in
noncomputable def ixOf (avs : List AV) (i : Nat) : Option Nat := if h : ∃ k : Nat, avs[k]? = some (AV.ref i) then some (choose h) else none
theorem ixOf_s {avs : List AV} {i k : Nat} (h : ixOf avs i = some k) : avs[k]? = some (AV.ref i) := by
  unfold ixOf at h
  split at h
  · rename_i q
    injection h with h
    subst h
    exact Classical.choose_spec q
  · cases h
theorem ixOf_n {avs : List AV} {i : Nat} (h : ixOf avs i = none) : ¬ ∃ k : Nat, avs[k]? = some (AV.ref i) := by
  unfold ixOf at h
  split at h
  · cases h
  · assumption
/-- behind a call -/
theorem back_co {vs : List V} {avs : List AV} {fr : List Addr} {as as' : List SV} {g g' : Nat → List Addr} (R : Rp K B G H σ ρ fp) (ho : ∀ a ∈ fr, ¬ In fp a) (hfr : ∀ a ∈ fr, In B.fp0 a ∨ B.H0 a = none) (nd : (refs avs).Nodup) (ha : resA ρ avs = some as)
    (hg : ∀ (k : Nat) a, a ∈ g k → (a ∈ fr ∧ ∃ t, avs[k]? = some (AV.val t)) ∨ ∃ i, avs[k]? = some (AV.ref i) ∧ a ∈ fp i) (l2 : as.length = avs.length) (hr : ∀ (k i : Nat), avs[k]? = some (AV.ref i) → ∃ v, vs[k]? = some v ∧ σ[i]? = some (some v))
    (c' : Co K G' H' (vs.map some) (as'.map some) g') (st : Stp (In g) G H G' H') (inn : ∀ a, In g' a → In g a ∨ H a = none) (hl : as'.length = as.length) :
    ∃ fp2, Rp K B G' H' σ (wb ρ avs as') fp2 ∧ Stp (fun a => In fp a ∨ a ∈ fr) G H G' H' ∧ (∀ a, In fp2 a → In fp a ∨ H a = none ∨ a ∈ fr) ∧ ∀ a, In fp2 a → In g' a ∨ In fp a ∧ ¬ In g a := by
  have gsub : ∀ a, In g a → In fp a ∨ a ∈ fr := fun a ⟨k, m⟩ => (hg k a m).elim (fun ⟨m, _⟩ => .inr m) fun ⟨i, _, m⟩ => .inl ⟨i, m⟩
  let ix : Nat → Option Nat := ixOf avs
  have ix_s : ∀ {i k : Nat}, ix i = some k → avs[k]? = some (AV.ref i) := fun h => ixOf_s h
  have ix_n : ∀ {i}, ix i = none → i ∉ refs avs := fun h m => ixOf_n h (refs_at m)
  have as_at : ∀ {k i : Nat}, avs[k]? = some (AV.ref i) → ∃ t, as'[k]? = some t := fun {k i} h => by
    have : k < avs.length := (List.getElem?_eq_some_iff.mp h).1
    exact ⟨as'[k]'(by omega), List.getElem?_eq_getElem (by omega)⟩
  have ilt : ∀ {k i : Nat}, avs[k]? = some (AV.ref i) → i < ρ.length := fun {k i} h => by
    obtain ⟨v, _, e⟩ := hr k i h
    have := (List.getElem?_eq_some_iff.mp e).1
    rw [R.co.len] at this
    exact this
  let fp2 : Nat → List Addr := fun i => match ix i with
    | some k => g' k
    | none => fp i
  have clash : ∀ {i k a}, ix i = none → a ∈ fp i → a ∈ g k → False := fun {i k a} h m1 m2 => by
    rcases hg k a m2 with ⟨m, _⟩ | ⟨j, e, m⟩
    · exact ho a m ⟨i, m1⟩
    · have := R.co.dis i j a m1 m
      subst this
      exact ix_n h (refs_of e)
  have nin : ∀ {i a}, ix i = none → a ∈ fp i → ¬ In g a := fun h m ⟨k, m2⟩ => clash h m m2
  have here : ∀ {a}, In fp a → ∃ o, H a = some o := fun h => (R.co.here h).1
  refine ⟨fp2, ⟨⟨by rw [wb_len]; exact R.co.len, c'.sub, fun i t h => ?_, fun i h => ?_, fun i j a h1 h2 => ?_⟩, R.stp.trans (O' := fun a => In g a) st (fun a h => ?_), fun a h => ?_, fun i m => ?_, R.lo.trans st.ex⟩, ⟨st.ex, fun a o n e => st.keep a o (fun z => n (gsub a z)) e, fun a o n e g0 => st.hid a o (fun z => n (gsub a z)) e g0⟩, fun a h => ?_, fun a h => ?_⟩
  · cases q : ix i with
    | some k =>
      have hk := ix_s q
      obtain ⟨u, eu⟩ := as_at hk
      rw [wb_in avs as' ρ nd hk eu (ilt hk)] at h
      injection h with h; injection h with h
      subst h
      obtain ⟨v, e1, e2⟩ := hr k i hk
      obtain ⟨w, e3, ot⟩ := c'.slot k u (by simp [eu])
      have : w = v := by simp [e1] at e3; exact e3.symm
      subst this
      refine ⟨w, e2, ?_⟩
      simp only [fp2, q]; exact ot
    | none =>
      rw [wb_out avs as' ρ (ix_n q)] at h
      obtain ⟨v, e1, ot⟩ := R.co.slot i t h
      refine ⟨v, e1, ?_⟩
      simp only [fp2, q]
      exact ot.mono st.ex (fun a m o e => st.keep a o (nin q m) e) fun a m => by
        obtain ⟨⟨u, e⟩, g0⟩ := ot.here a m
        exact st.hid a u (nin q m) e g0
  · cases q : ix i with
    | some k =>
      have hk := ix_s q
      obtain ⟨u, eu⟩ := as_at hk
      exact absurd (wb_in avs as' ρ nd hk eu (ilt hk)) (h u)
    | none =>
      simp only [fp2, q]
      exact R.co.nil i fun t e => h t (by rw [wb_out avs as' ρ (ix_n q)]; exact e)
  · cases q1 : ix i with
    | some k =>
      simp only [fp2, q1] at h1
      cases q2 : ix j with
      | some l =>
        simp only [fp2, q2] at h2
        have := c'.dis k l a h1 h2
        subst this
        have e1 := ix_s q1
        have e2 := ix_s q2
        rw [e1] at e2
        injection e2 with e2; injection e2
      | none =>
        simp only [fp2, q2] at h2
        rcases inn a ⟨k, h1⟩ with z | z
        · exact (nin q2 h2 z).elim
        · obtain ⟨o, e⟩ := here ⟨j, h2⟩
          rw [z] at e; cases e
    | none =>
      simp only [fp2, q1] at h1
      cases q2 : ix j with
      | some l =>
        simp only [fp2, q2] at h2
        rcases inn a ⟨l, h2⟩ with z | z
        · exact (nin q1 h1 z).elim
        · obtain ⟨o, e⟩ := here ⟨i, h1⟩
          rw [z] at e; cases e
      | none =>
        simp only [fp2, q2] at h2
        exact R.co.dis i j a h1 h2
  · exact (gsub a h).elim (R.own a) (hfr a)
  · obtain ⟨i, m⟩ := h
    have old : H a = none → In B.fp0 a ∨ B.H0 a = none := fun z => by
      by_cases q : In B.fp0 a
      · exact .inl q
      · exact .inr (R.stp.fresh q z)
    cases q : ix i with
    | some k =>
      simp only [fp2, q] at m
      exact (inn a ⟨k, m⟩).elim (fun z => (gsub a z).elim (R.own a) (hfr a)) old
    | none =>
      simp only [fp2, q] at m
      exact R.own a ⟨i, m⟩
  · obtain ⟨v, t, h1, h2, h3⟩ := R.io i m
    cases q : ix i with
    | some k =>
      have hk := ix_s q
      obtain ⟨u, eu⟩ := as_at hk
      exact ⟨v, u, h1, h2, wb_in avs as' ρ nd hk eu (ilt hk)⟩
    | none => exact ⟨v, t, h1, h2, by rw [wb_out avs as' ρ (ix_n q)]; exact h3⟩
  · obtain ⟨i, m⟩ := h
    cases q : ix i with
    | some k =>
      simp only [fp2, q] at m
      rcases inn a ⟨k, m⟩ with z | z
      · exact (gsub a z).elim .inl fun z => .inr (.inr z)
      · exact .inr (.inl z)
    | none =>
      simp only [fp2, q] at m
      exact .inl ⟨i, m⟩
  · obtain ⟨i, m⟩ := h
    cases q : ix i with
    | some k =>
      simp only [fp2, q] at m
      exact .inl ⟨k, m⟩
    | none =>
      simp only [fp2, q] at m
      exact .inr ⟨⟨i, m⟩, nin q m⟩
end
/-! ### a call -/
@[simp] def fCall (F : Ctr) (fa : FAs) : FE := fun ρ Q => fa ρ fun avs ρ1 => ∃ as, resA ρ1 avs = some as ∧ (refs avs).Nodup ∧ F as fun r as' => Q r (wb ρ1 avs as')
theorem de_call {K : PySem.W.Frag} {io : List Nat} {F : Ctr} {fa : FAs} {t : TA} {E : XK} (h : DAs K io t fa) : DE K io (tCall (spD K F) [] E t) (fCall F fa) := by
  intro B G H σ ρ fp Qd Q hB R hf k
  refine h B G H σ ρ fp _ _ hB R hf fun avs ρ1 vs G1 H1 fp1 fr n1 ar t1 t2 ⟨as, ha, nd, hF⟩ => ?_
  obtain ⟨g, cg, hg, l1, l2, hr⟩ := args_co n1.rp.co ar t1 nd ha
  have hfr : ∀ a ∈ fr, In B.fp0 a ∨ B.H0 a = none := fun a m => by
    rcases t2 a m with z | z
    · by_cases q : In B.fp0 a
      · exact .inl q
      · exact .inr (R.stp.fresh q z)
    · exact R.own a z
  show spD K F (vs ++ []) H1 Q E
  rw [List.append_nil]
  refine ⟨G1, as, g, _, cg, hF, fun r as' v G' H' g' fr' c' st inn ot d1 d2 q => ?_⟩
  have hl : as'.length = as.length := by
    have e1 := c'.len
    have e2 := cg.len
    simp at e1 e2
    omega
  obtain ⟨fp2, R2, st2, in2, cl⟩ := back_co n1.rp t1 hfr nd ha hg l2 hr c' st inn hl
  have back : ∀ a, H1 a = none → H a = none ∨ In fp a := fun a z => by
    by_cases q : In fp a
    · exact .inr q
    · exact .inl (n1.st.fresh q z)
  have back1 : ∀ a, In fp1 a → H a = none ∨ In fp a := fun a z => (n1.inn a z).symm
  have old : ∀ a, In g a → In fp1 a ∨ a ∈ fr := fun a ⟨k, m⟩ => (hg k a m).elim (fun ⟨m, _⟩ => .inr m) fun ⟨i, _, m⟩ => .inl ⟨i, m⟩
  have gb : ∀ a, In g a → H a = none ∨ In fp a := fun a z => (old a z).elim (back1 a) (t2 a)
  refine k r _ v G' H' fp2 fr' ⟨R2, n1.st.trans st2 fun a z => z.elim (n1.inn a) fun z => (t2 a z).symm, fun a z => ?_⟩ ot (fun a m z => ?_) (fun a m => ?_) q
  · rcases in2 a z with z | z | z
    · exact (back1 a z).symm
    · exact (back a z).symm
    · exact (t2 a z).symm
  · rcases cl a z with z | ⟨z, nz⟩
    · exact d1 a m z
    · rcases d2 a m with y | y
      · obtain ⟨⟨o, e⟩, _⟩ := n1.rp.co.here z
        rw [y] at e; cases e
      · exact nz y
  · exact (d2 a m).elim (back a) (gb a)
section
variable {X : Cx} {io : List Nat} {x : Str} {ps : List Str} {k : Nat} {F : Ctr} {e : Expr} {es : List Expr} {fa : FAs} {p pos : Pos}
theorem e_call (h : Hs X.prog X.w X.K X.mg X.base x ps k F) (hr : RoomG k X.A) (ha : PDas X io (e :: es) fa) (hg : Gl X x := by rfl) (hdb : (x == ("__debug__" : Str)) = false := by decide)
    (he : starEach (e :: es) X.env = (false, eval e X.env) :: starEach es X.env := by rfl) (hpl : (backTo pos (starEach es X.env)).any (·.1) = false := by rfl) : PDe X io (.Call (.Name x p) (e :: es) [] pos) (fCall F fa) := by
  obtain ⟨f, fd, h1, h2, h3, h4⟩ := h
  obtain ⟨t, a1, a2⟩ := ha
  exact ⟨_, pe_callG h4 hr hg h1 h2 h3 pass0 a1 hdb he hpl, de_call a2⟩
theorem e_call0 (h : Hs X.prog X.w X.K X.mg X.base x ps k F) (hr : RoomG k X.A) (hg : Gl X x := by rfl) (hdb : (x == ("__debug__" : Str)) = false := by decide) : PDe X io (.Call (.Name x p) [] [] pos) (fCall F aNil) := by
  obtain ⟨f, fd, h1, h2, h3, h4⟩ := h
  obtain ⟨t, a1, a2⟩ := (a_nil : PDas X io [] aNil)
  refine ⟨_, pe_callG0 h4 hr hg h1 h2 h3 pass0 hdb, de_call (io := io) (fun B G H σ ρ fp Qd Q hB R hf k => k [] ρ [] G H fp [] (Nxt.refl R) .nil (fun _ z => nomatch z) (fun _ z => nomatch z) hf)⟩
end
end DL

namespace DL
open PySem PySem.Spec PyProof.Rows L2
/-! ### statements -/
structure DEnds where
  nx : Rho → Prop
  rt : SV → Rho → Prop
  bk : Rho → Prop := fun _ => False
  ct : Rho → Prop := fun _ => False
abbrev FS := DEnds → Rho → Prop
structure Sim (K : PySem.W.Frag) (B : Bs) (Dd : DEnds) (Dh : Ends) : Prop where
  nx : ∀ G H σ ρ fp, Rp K B G H σ ρ fp → Dd.nx ρ → Dh.nx σ H
  rt : ∀ G H σ ρ fp r v fr, Rp K B G H σ ρ fp → OT K G H v r fr → (∀ a ∈ fr, ¬ In fp a) → (∀ a ∈ fr, In B.fp0 a ∨ B.H0 a = none) → Dd.rt r ρ → Dh.rt v H
  bk : ∀ G H σ ρ fp, Rp K B G H σ ρ fp → Dd.bk ρ → Dh.bk σ H
  ct : ∀ G H σ ρ fp, Rp K B G H σ ρ fp → Dd.ct ρ → Dh.ct σ H
def DS (K : PySem.W.Frag) (io : List Nat) (t : TS) (fs : FS) : Prop := ∀ (B : Bs) G H σ ρ fp Dd Dh, B.io = io → Rp K B G H σ ρ fp → fs Dd ρ → Sim K B Dd Dh → t Dh σ H
def PDs (X : Cx) (io : List Nat) (st : Stmt) (fs : FS) : Prop := ∃ t, PS X st t ∧ DS X.K io t fs
def PDss (X : Cx) (io : List Nat) (st : List Stmt) (fs : FS) : Prop := ∃ t, PSs X st t ∧ DS X.K io t fs
section
variable {K : PySem.W.Frag} {B : Bs} {σ : L2.St} {G H G' H' : Hp} {ρ ρ' : Rho} {fp fp' : Nat → List Addr}
/-- what a temporary holds is new since the entry -/
theorem Rp.base (R : Rp K B G H σ ρ fp) {fr : List Addr} (h : ∀ a ∈ fr, H a = none ∨ In fp a) : ∀ a ∈ fr, In B.fp0 a ∨ B.H0 a = none := fun a m => by
  rcases h a m with z | z
  · by_cases q : In B.fp0 a
    · exact .inl q
    · exact .inr (R.stp.fresh q z)
  · exact R.own a z
/-- a tree is put into a slot -/
theorem Rp.put {i : Nat} {v : V} {t : SV} {fr : List Addr} (R : Rp K B G H σ ρ fp) (hi : i ∉ B.io) (ot : OT K G H v t fr) (h1 : ∀ a ∈ fr, ¬ In fp a) (h2 : ∀ a ∈ fr, In B.fp0 a ∨ B.H0 a = none) :
    Rp K B G H (σ.set i (some v)) (ρ.set i (some t)) (fun j => if j = i then (if i < ρ.length then fr else []) else fp j) := by
  refine ⟨⟨by rw [List.length_set, List.length_set]; exact R.co.len, R.co.sub, fun j u h => ?_, fun j h => ?_, fun j l a m1 m2 => ?_⟩, R.stp, fun a h => ?_, fun j m => ?_, R.lo⟩
  · by_cases e : j = i
    · subst e
      have hl : j < ρ.length := by
        have := (List.getElem?_eq_some_iff.mp h).1
        simpa using this
      rw [List.getElem?_set_self hl] at h
      injection h with h; injection h with h
      subst h
      exact ⟨v, List.getElem?_set_self (by rw [R.co.len]; exact hl), by simp only [if_pos hl, if_true]; exact ot⟩
    · rw [List.getElem?_set_ne (Ne.symm e)] at h
      obtain ⟨w, e1, o⟩ := R.co.slot j u h
      exact ⟨w, by rw [List.getElem?_set_ne (Ne.symm e)]; exact e1, by simp only [if_neg e]; exact o⟩
  · by_cases e : j = i
    · subst e
      simp only [if_true]
      by_cases hl : j < ρ.length
      · exact absurd (List.getElem?_set_self hl) (h t)
      · exact if_neg hl
    · simp only [if_neg e]
      exact R.co.nil j fun u q => h u (by rw [List.getElem?_set_ne (Ne.symm e)]; exact q)
  · have get : ∀ {j}, a ∈ (if j = i then (if i < ρ.length then fr else []) else fp j) → (j = i ∧ a ∈ fr) ∨ (j ≠ i ∧ a ∈ fp j) := fun {j} m => by
      by_cases e : j = i
      · rw [if_pos e] at m
        by_cases hl : i < ρ.length
        · rw [if_pos hl] at m; exact .inl ⟨e, m⟩
        · rw [if_neg hl] at m; cases m
      · rw [if_neg e] at m; exact .inr ⟨e, m⟩
    rcases get m1 with ⟨e1, m1⟩ | ⟨e1, m1⟩
    · rcases get m2 with ⟨e2, m2⟩ | ⟨e2, m2⟩
      · rw [e1, e2]
      · exact absurd ⟨l, m2⟩ (h1 a m1)
    · rcases get m2 with ⟨e2, m2⟩ | ⟨e2, m2⟩
      · exact absurd ⟨j, m1⟩ (h1 a m2)
      · exact R.co.dis j l a m1 m2
  · obtain ⟨j, m⟩ := h
    by_cases e : j = i
    · simp only [if_pos e] at m
      by_cases hl : i < ρ.length
      · rw [if_pos hl] at m; exact h2 a m
      · rw [if_neg hl] at m; cases m
    · simp only [if_neg e] at m
      exact R.own a ⟨j, m⟩
  · obtain ⟨w, u, e1, e2, e3⟩ := R.io j m
    have ne : i ≠ j := fun e => hi (e ▸ m)
    exact ⟨w, u, e1, by rw [List.getElem?_set_ne ne]; exact e2, by rw [List.getElem?_set_ne ne]; exact e3⟩
theorem Rp.putD {i : Nat} {v : V} {d : DD} (R : Rp K B G H σ ρ fp) (hi : i ∉ B.io) (r : Rq K G v d) : ∃ fp', Rp K B G H (σ.set i (some v)) (ρ.set i (some (.dat d))) fp' :=
  ⟨_, R.put hi (.dat r) (fun _ z => nomatch z) (fun _ z => nomatch z)⟩
end
section
variable {X : Cx} {io : List Nat} {e : Expr} {pos : Pos} {st : Stmt} {rest : List Stmt} {f g : FS}
@[simp] def fNext : FS := fun D ρ => D.nx ρ
@[simp] def fSeq (f g : FS) : FS := fun D ρ => f { D with nx := g D } ρ
theorem ds_next : DS X.K io tNext fNext := fun B G H σ ρ fp Dd Dh hB R hf s => s.nx _ _ _ _ _ R hf
theorem ss_nil : PDss X io [] fNext := ⟨_, pss_nil, ds_next⟩
theorem ss_cons (h1 : PDs X io st f) (h2 : PDss X io rest g) : PDss X io (st :: rest) (fSeq f g) := by
  obtain ⟨t, a1, a2⟩ := h1
  obtain ⟨u, b1, b2⟩ := h2
  exact ⟨_, pss_cons a1 b1, fun B G H σ ρ fp Dd Dh hB R hf s => a2 B G H σ ρ fp _ _ hB R hf ⟨fun G H σ ρ fp R q => b2 B G H σ ρ fp Dd Dh hB R q s, s.rt, s.bk, s.ct⟩⟩
theorem ss_one (h1 : PDs X io st f) : PDss X io [st] f := let ⟨_, a1, a2⟩ := h1; ⟨_, pss_one a1, a2⟩
theorem s_pass : PDs X io (.Pass pos) fNext := ⟨_, ps_pass, ds_next⟩
@[simp] def fBrk : FS := fun D ρ => D.bk ρ
@[simp] def fCont : FS := fun D ρ => D.ct ρ
theorem s_brk : PDs X io (.Break pos) fBrk := ⟨_, ps_break, fun B G H σ ρ fp Dd Dh hB R hf s => s.bk _ _ _ _ _ R hf⟩
theorem s_cont : PDs X io (.Continue pos) fCont := ⟨_, ps_continue, fun B G H σ ρ fp Dd Dh hB R hf s => s.ct _ _ _ _ _ R hf⟩
@[simp] def fNever : FS := fun _ _ => False
theorem s_never : PDs X io st fNever := ⟨_, ps_never, fun B G H σ ρ fp Dd Dh hB R hf s => hf.elim⟩
theorem s_doc {x : Str} {j : Nat} {pos' : Pos} : PDs X io (.Expr (.Constant (.str x) j pos) pos') fNext := ⟨_, ps_doc, ds_next⟩
@[simp] def fDrop (fe : FE) : FS := fun D ρ => fe ρ fun _ ρ1 => D.nx ρ1
theorem s_expr {fe : FE} (h : PDe X io e fe) (hs : swapsWith e none pos.line X.env = pure false := by rfl) : PDs X io (.Expr e pos) (fDrop fe) := by
  obtain ⟨t, a1, a2⟩ := h
  exact ⟨_, ps_expr a1 hs, fun B G H σ ρ fp Dd Dh hB R hf s => a2 B G H σ ρ fp _ _ hB R hf fun r ρ' v G' H' fp' fr n ot t1 t2 q => s.nx _ _ _ _ _ n.rp q⟩
@[simp] def fRet (fe : FE) : FS := fun D ρ => fe ρ D.rt
theorem s_ret {fe : FE} (h : PDe X io e fe) : PDs X io (.Return (some e) pos) (fRet fe) := by
  obtain ⟨t, a1, a2⟩ := h
  exact ⟨_, ps_ret a1, fun B G H σ ρ fp Dd Dh hB R hf s => a2 B G H σ ρ fp _ _ hB R hf fun r ρ' v G' H' fp' fr n ot t1 t2 q => s.rt _ _ _ _ _ _ _ _ n.rp ot t1 (R.base t2) q⟩
@[simp] def fRetN : FS := fun D ρ => D.rt (.dat .non) ρ
theorem s_retN : PDs X io (.Return none pos) fRetN := ⟨_, ps_retN, fun B G H σ ρ fp Dd Dh hB R hf s => s.rt _ _ _ _ _ _ _ [] R (.dat .non) (fun _ z => nomatch z) (fun _ z => nomatch z) hf⟩
@[simp] def fIf (c : FT) (f g : FS) : FS := fun D ρ => c ρ fun b ρ1 => if b = true then f D ρ1 else g D ρ1
theorem s_if {c : Expr} {a b : List Stmt} {fc : FT} (hc : PDt X io c fc) (ha : PDss X io a f) (hb : PDss X io b g) : PDs X io (.If c a b pos) (fIf fc f g) := by
  obtain ⟨_, c1, c2⟩ := hc
  obtain ⟨_, a1, a2⟩ := ha
  obtain ⟨_, b1, b2⟩ := hb
  refine ⟨_, ps_if c1 a1 b1, fun B G H σ ρ fp Dd Dh hB R hf s => ?_⟩
  refine c2 B G H σ ρ fp _ _ hB R hf fun b ρ1 G1 H1 fp1 n q => ?_
  cases b with
  | true => exact a2 B G1 H1 σ ρ1 fp1 Dd Dh hB n.rp q s
  | false => exact b2 B G1 H1 σ ρ1 fp1 Dd Dh hB n.rp q s
/-! x = e -/
@[simp] def fSet (io : List Nat) (i : Nat) (fe : FE) : FS := fun D ρ => fe ρ fun r ρ1 => i ∉ io ∧ D.nx (ρ1.set i (some r))
theorem ds_set {te : TE} {fe : FE} {i : Nat} (h : DE X.K io te fe) : DS X.K io (tAsg te (gName i)) (fSet io i fe) := by
  intro B G H σ ρ fp Dd Dh hB R hf s
  refine h B G H σ ρ fp _ _ hB R hf fun r ρ' v G' H' fp' fr n ot t1 t2 ⟨hi, q⟩ => ?_
  exact s.nx _ _ _ _ _ (n.rp.put (by rw [hB]; exact hi) ot t1 (R.base t2)) q
theorem s_set {i : Nat} {x : Str} {fe : FE} {pos' : Pos} (hN : X.N.Nodup) (h : PDe X io e fe) (hi : X.N[i]? = some x := by rfl) (hx : Loc X.env.scope x := by first | exact Or.inl rfl | exact Or.inr rfl)
    (hs : swapsWith e (some (.Name x pos')) pos.line X.env = pure false := by rfl) (hf : X.fn x = true ∨ X.env.scope.names.lookup x = some .local := by first | exact .inl rfl | exact .inr rfl) : PDs X io (.Assign [.Name x pos'] e pos) (fSet io i fe) := by
  obtain ⟨_, a1, a2⟩ := h
  exact ⟨_, ps_set hN hi hx a1 hs hf, ds_set a2⟩
/-! targets -/
abbrev FG := DD → Rho → (Rho → Prop) → Prop
abbrev FGs := List DD → Rho → (Rho → Prop) → Prop
/-- ks: the slots that are stored -/
def DG (K : PySem.W.Frag) (io ks : List Nat) (g : TG) (fg : FG) : Prop := ∀ (B : Bs) G H σ ρ fp v d (Qd : Rho → Prop) (Q : L2.St → Hp → Prop), B.io = io → Rp K B G H σ ρ fp → Rq K G v d → fg d ρ Qd →
  (∀ σ' ρ' fp', Rp K B G H σ' ρ' fp' → (∀ a, In fp' a → In fp a) → (σ'.length = σ.length ∧ ∀ j, j ∉ ks → σ'[j]? = σ[j]?) → Qd ρ' → Q σ' H) → g v σ H Q
def DGs (K : PySem.W.Frag) (io ks : List Nat) (g : TGs) (fg : FGs) : Prop := ∀ (B : Bs) G H σ ρ fp v d (Qd : Rho → Prop) (Q : L2.St → Hp → Prop), B.io = io → Rp K B G H σ ρ fp → RqA K G v d → fg d ρ Qd →
  (∀ σ' ρ' fp', Rp K B G H σ' ρ' fp' → (∀ a, In fp' a → In fp a) → (σ'.length = σ.length ∧ ∀ j, j ∉ ks → σ'[j]? = σ[j]?) → Qd ρ' → Q σ' H) → g v σ H Q
def PDg (X : Cx) (io ks : List Nat) (e : Expr) (fg : FG) : Prop := ∃ g, PG X e g ∧ DG X.K io ks g fg
def PDgs (X : Cx) (io ks : List Nat) (es : List Expr) (fg : FGs) : Prop := ∃ g, PGs X es g ∧ DGs X.K io ks g fg
@[simp] def gSet (io : List Nat) (i : Nat) : FG := fun d ρ Q => i ∉ io ∧ Q (ρ.set i (some (.dat d)))
theorem t_name {i : Nat} {x : Str} (hN : X.N.Nodup) (hi : X.N[i]? = some x := by rfl) (hx : Loc X.env.scope x := by first | exact Or.inl rfl | exact Or.inr rfl) (hf : X.fn x = true ∨ X.env.scope.names.lookup x = some .local := by first | exact .inl rfl | exact .inr rfl) : PDg X io [i] (.Name x pos) (gSet io i) := by
  refine ⟨_, pg_name (i := i) hN hi hx hf, fun B G H σ ρ fp v d Qd Q hB R r ⟨h, q⟩ k => ?_⟩
  refine k _ _ _ (R.put (i := i) (by rw [hB]; exact h) (.dat r) (fun _ z => nomatch z) (fun _ z => nomatch z)) (fun a ⟨j, m⟩ => ?_) ⟨List.length_set, fun j hj => ?_⟩ q
  · by_cases e : j = i
    · simp [e] at m
    · simp only [if_neg e] at m
      exact ⟨j, m⟩
  · rw [List.getElem?_set_ne fun e => hj (by rw [e]; exact List.mem_cons_self)]
@[simp] def gsNil : FGs := fun ds ρ Q => ds = [] ∧ Q ρ
@[simp] def gsCons (g : FG) (gs : FGs) : FGs := fun ds ρ Q => ∃ d r, ds = d :: r ∧ g d ρ fun ρ1 => gs r ρ1 Q
theorem ts_nil : PDgs X io [] [] gsNil := ⟨_, pgs_nil, fun B G H σ ρ fp v d Qd Q hB R r ⟨h, q⟩ k => by
  subst h
  cases r
  exact ⟨rfl, k _ _ _ R (fun _ h => h) ⟨rfl, fun _ _ => rfl⟩ q⟩⟩
theorem ts_cons {es : List Expr} {ks ks' : List Nat} {g : FG} {gs : FGs} (h1 : PDg X io ks e g) (h2 : PDgs X io ks' es gs) (hs : (assignEach (e :: es) X.env).map (·.2) = assign e X.env :: (assignEach es X.env).map (·.2) := by rfl) : PDgs X io (ks ++ ks') (e :: es) (gsCons g gs) := by
  obtain ⟨_, a1, a2⟩ := h1
  obtain ⟨_, b1, b2⟩ := h2
  refine ⟨_, pgs_cons a1 b1 hs, fun B G H σ ρ fp v d Qd Q hB R r ⟨d0, dr, ed, q⟩ k => ?_⟩
  subst ed
  cases r with
  | cons r0 rr =>
    refine ⟨_, _, rfl, ?_⟩
    exact a2 B G H σ ρ fp _ _ _ _ hB R r0 q fun σ1 ρ1 fp1 R1 i1 s1 q1 => b2 B G H σ1 ρ1 fp1 _ _ _ _ hB R1 rr q1 fun σ2 ρ2 fp2 R2 i2 s2 q2 =>
      k σ2 ρ2 fp2 R2 (fun a h => i1 a (i2 a h)) ⟨s2.1.trans s1.1, fun j hj => (s2.2 j fun m => hj (List.mem_append_right _ m)).trans (s1.2 j fun m => hj (List.mem_append_left _ m))⟩ q2
@[simp] def gTupD (n : Nat) (gs : FGs) : FG := fun d ρ Q => ∃ ds, d = .tup ds ∧ ds.length = n ∧ gs ds ρ Q
theorem t_tup {es : List Expr} {ks : List Nat} {k n : Nat} {gs : FGs} (hc : X.calm = true) (h : PDgs X io ks es gs) (hn : (assignEach es X.env).length = n := by rfl) (hst : (assignEach es X.env).findIdx? (·.1) = none := by rfl) : PDg X io ks (.Tuple es k pos) (gTupD n gs) := by
  obtain ⟨_, a1, a2⟩ := h
  refine ⟨_, pg_tup hc a1 hn hst, fun B G H σ ρ fp v d Qd Q hB R r ⟨ds, ed, hl, q⟩ k => ?_⟩
  subst ed
  obtain ⟨a, xs, ev, hs, rs⟩ := r.tup_inv
  exact ⟨a, xs, ev, R.co.sub.t hs, by rw [rs.length]; exact hl, a2 B G H σ ρ fp _ _ _ _ hB R rs q k⟩
@[simp] def fAsg (fv : FV) (fg : FG) : FS := fun D ρ => fv ρ fun d ρ1 => fg d ρ1 D.nx
theorem s_asg {tg : Expr} {ks : List Nat} {fv : FV} {fg : FG} (h : PDv X io e fv) (hg : PDg X io ks tg fg) (hs : swapsWithSole [tg] e pos.line X.env = pure false := by rfl) (hw : swappedStores [tg] e X.env = pure none := by rfl)
    (h1 : (assignEach [tg] X.env).map (·.2) = [assign tg X.env] := by rfl) : PDs X io (.Assign [tg] e pos) (fAsg fv fg) := by
  obtain ⟨_, a1, a2⟩ := h
  obtain ⟨_, b1, b2⟩ := hg
  refine ⟨_, ps_asg a1 b1 hs hw h1, fun B G H σ ρ fp Dd Dh hB R hf s => ?_⟩
  refine a2 B G H σ ρ fp _ _ hB R hf fun d ρ1 v G1 H1 fp1 n r q => ?_
  exact b2 B G1 H1 σ ρ1 fp1 v d _ _ hB n.rp r q fun σ' ρ' fp' R' _ _ q' => s.nx _ _ _ _ _ R' q'
/-- a, b = x, y -/
@[simp] def fPar (io : List Nat) (i j : Nat) (fs : FSs) : FS := fun D ρ => fs ρ fun ts ρ1 => ∃ t u, ts = [t, u] ∧ i ∉ io ∧ j ∉ io ∧ D.nx ((ρ1.set i (some t)).set j (some u))
theorem OTs.two {K : PySem.W.Frag} {G H : Hp} {vs : List V} {t u : SV} {fr : List Addr} (h : OTs K G H vs [t, u] fr) : ∃ v w f1 f2, vs = [v, w] ∧ OT K G H v t f1 ∧ OT K G H w u f2 ∧ (∀ a ∈ f1, a ∉ f2) ∧ (∀ a ∈ f1, a ∈ fr) ∧ ∀ a ∈ f2, a ∈ fr := by
  cases h with
  | cons a b d =>
    cases b with
    | cons b c d2 =>
      cases c
      exact ⟨_, _, _, _, rfl, a, b, fun x m m' => d x m (List.mem_append_left _ m'), fun x m => List.mem_append_left _ m, fun x m => List.mem_append_right _ (List.mem_append_left _ m)⟩
theorem s_par {i j : Nat} {x y : Str} {a b : Expr} {fs : FSs} {px py pt : Pos} {kt k2 : Nat} {pt2 : Pos} (hc : X.calm = true) (hN : X.N.Nodup) (h : PDs' X io [a, b] fs) (hi : X.N[i]? = some x := by rfl) (hj : X.N[j]? = some y := by rfl) (hij : i ≠ j := by decide)
    (hx : X.env.scope.names.lookup x = some .local := by rfl) (hy : X.env.scope.names.lookup y = some .local := by rfl)
    (hw : swappedStores [.Tuple [.Name x px, .Name y py] kt pt] (.Tuple [a, b] k2 pt2) X.env = pure (some [x, y]) := by rfl)
    (hs : swapsWithSole [.Tuple [.Name x px, .Name y py] kt pt] (.Tuple [a, b] k2 pt2) pos.line X.env = pure false := by rfl) :
    PDs X io (.Assign [.Tuple [.Name x px, .Name y py] kt pt] (.Tuple [a, b] k2 pt2) pos) (fPar io i j fs) := by
  obtain ⟨_, a1, a2⟩ := h
  refine ⟨_, ps_par hc hN hi hj hij hx hy a1 hw hs, fun B G H σ ρ fp Dd Dh hB R hf s => ?_⟩
  refine a2 B G H σ ρ fp _ _ hB R hf fun ts ρ1 vs G1 H1 fp1 fr n os t1 t2 ⟨t, u, et, hi', hj', q⟩ => ?_
  subst et
  obtain ⟨v, w, f1, f2, ev, o1, o2, d12, in1, in2⟩ := os.two
  have hb := R.base t2
  have R1 := n.rp.put (i := i) (by rw [hB]; exact hi') o1 (fun a m => t1 a (in1 a m)) (fun a m => hb a (in1 a m))
  have R2 := R1.put (i := j) (by rw [hB]; exact hj') o2 (fun a m ⟨l, z⟩ => by
    by_cases e : l = i
    · simp only [if_pos e] at z
      by_cases hl : i < ρ1.length
      · rw [if_pos hl] at z; exact d12 a z m
      · rw [if_neg hl] at z; cases z
    · simp only [if_neg e] at z
      exact t1 a (in2 a m) ⟨l, z⟩) (fun a m => hb a (in2 a m))
  exact ⟨v, w, ev, s.nx _ _ _ _ _ R2 q⟩
/-! x op= e (ints) -/
@[simp] def fAug (io : List Nat) (i : Nat) (fv : FV) (op : Int → Int → Int) : FS := fun D ρ => ∃ n, ρ[i]? = some (some (.dat (.int n))) ∧ fv ρ fun d ρ1 => ∃ m, d = .int m ∧ i ∉ io ∧ D.nx (ρ1.set i (some (.dat (.int (op n m)))))
theorem s_aug {i : Nat} {x : Str} {fv : FV} {op : Operator} {g : Int → Int → Int} {pos' : Pos} (hp : PIp X op (ipI g)) (hN : X.N.Nodup) (h : PDv X io e fv) (hi : X.N[i]? = some x := by rfl) (hx : Loc X.env.scope x := by first | exact Or.inl rfl | exact Or.inr rfl)
    (hf : X.fn x = true ∨ X.env.scope.names.lookup x = some .local := by first | exact .inl rfl | exact .inr rfl) : PDs X io (.AugAssign (.Name x pos') op e pos) (fAug io i fv g) := by
  obtain ⟨_, a1, a2⟩ := h
  refine ⟨_, ps_aug hN hi hx a1 hp hf, fun B G H σ ρ fp Dd Dh hB R hf s => ?_⟩
  obtain ⟨n, e1, hf⟩ := hf
  obtain ⟨v, e2, ot⟩ := R.co.slot i _ e1
  obtain ⟨rv, _⟩ := ot.dat_inv
  have := rv.int_inv
  subst this
  refine ⟨_, e2, a2 B G H σ ρ fp _ _ hB R hf fun d ρ1 v1 G1 H1 fp1 nx r ⟨m, ed, hio, q⟩ => ?_⟩
  subst ed
  obtain ⟨fp', R'⟩ := nx.rp.putD (i := i) (v := .int (g n m)) (by rw [hB]; exact hio) (.int _)
  exact ⟨n, m, rfl, r.int_inv, s.nx _ _ _ _ _ R' q⟩
/-! while -/
def fWhile (c : FT) (f : FS) : FS := fun D ρ => ∃ W : Nat → Rho → Prop, (∃ m, W m ρ) ∧ ∀ m ρ, W m ρ → c ρ fun b ρ1 => if b = true then f { D with nx := fun ρ' => ∃ m', m' < m ∧ W m' ρ', ct := fun ρ' => ∃ m', m' < m ∧ W m' ρ', bk := D.nx } ρ1 else D.nx ρ1
theorem s_while {c : Expr} {body : List Stmt} {fc : FT} (hp : PassesOwn (model X.prog X.w) X.A X.env X.xe) (hc : PDt X io c fc) (hb : PDss X io body f) : PDs X io (.While c body [] pos) (fWhile fc f) := by
  obtain ⟨_, c1, c2⟩ := hc
  obtain ⟨_, a1, a2⟩ := hb
  refine ⟨_, ps_while hp c1 a1, fun B G H σ ρ fp Dd Dh hB R hf s => ?_⟩
  obtain ⟨W, ⟨m0, w0⟩, hW⟩ := hf
  refine ⟨fun m σ H => ∃ G ρ fp, Rp X.K B G H σ ρ fp ∧ W m ρ, ⟨m0, G, ρ, fp, R, w0⟩, ?_⟩
  rintro m σ1 H1 ⟨G1, ρ1, fp1, R1, w1⟩
  refine c2 B G1 H1 σ1 ρ1 fp1 _ _ hB R1 (hW m ρ1 w1) fun b ρ2 G2 H2 fp2 n2 q => ?_
  cases b with
  | true =>
    rw [if_pos rfl] at q ⊢
    refine ⟨fun σ H => ∃ G ρ fp, Rp X.K B G H σ ρ fp ∧ ∃ m', m' < m ∧ W m' ρ, fun σ' H' ⟨G', ρ', fp', R', m', hm, w'⟩ => ⟨m', hm, G', ρ', fp', R', w'⟩, ?_⟩
    · exact a2 B G2 H2 σ1 ρ2 fp2 _ _ hB n2.rp q ⟨fun G H σ ρ fp R z => ⟨G, ρ, fp, R, z⟩, s.rt, fun G H σ ρ fp R z => s.nx G H σ ρ fp R z, fun G H σ ρ fp R z => ⟨G, ρ, fp, R, z⟩⟩
  | false =>
    rw [if_neg Bool.false_ne_true] at q ⊢
    exact s.nx _ _ _ _ _ n2.rp q
/-! for: what is walked -/
abbrev FI := Rho → (List DD → Rho → Prop) → Prop
/-- an iterator over told items -/
def DJ (K : PySem.W.Frag) (J : It) (G : Hp) (ds : List DD) : Prop := ∀ (B : Bs) (i : Nat) G' H' σ ρ fp, Sub G G' → Rp K B G' H' σ ρ fp →
  (ds.length ≤ i → J.stop i H') ∧ ∀ d, ds[i]? = some d → J.go i H' ∧ ∀ x H'', J.yld i H' x H'' → ∃ G'', Nxt K B σ G' H' fp G'' H'' ρ fp ∧ Rq K G'' x d
def DI (K : PySem.W.Frag) (io : List Nat) (wi : TI) (fi : FI) : Prop := ∀ (B : Bs) G H σ ρ fp (Qd : List DD → Rho → Prop) (R : It → Hp → Prop), B.io = io → Rp K B G H σ ρ fp → fi ρ Qd →
  (∀ ds ρ' J G' H' fp', Nxt K B σ G H fp G' H' ρ' fp' → DJ K J G' ds → Qd ds ρ' → R J H') → wi σ H R
def PDi (X : Cx) (io : List Nat) (tg e : Expr) (fi : FI) : Prop := ∃ wi, PI X tg e wi ∧ DI X.K io wi fi
end
end DL

namespace DL
open PySem PySem.Spec PyProof.Rows L2
section
variable {K : PySem.W.Frag} {G : Hp}
theorem dj_list {a : Addr} {xs : List V} {ds : List DD} (h : Rd G a (.lst xs)) (r : RqA K G xs ds) : DJ K (Itl K a) G ds := fun B i G' H' σ ρ fp s R => by
  have hl : SqL K H' a xs := .inl (R.co.sub.rd (s.rd h))
  refine ⟨fun le => ⟨xs, hl, by rw [r.length]; exact le⟩, fun d e => ?_⟩
  obtain ⟨v, ev, rv⟩ := r.get e
  refine ⟨⟨xs, v, hl, ev⟩, fun x H'' y => ?_⟩
  obtain ⟨rfl, y⟩ := y
  have := y xs hl
  rw [ev] at this
  injection this with this
  subst this
  exact ⟨G', Nxt.refl R, rv.mono s⟩
theorem dj_tup {a : Addr} {xs : List V} {ds : List DD} (h : SqT K G a xs) (r : RqA K G xs ds) : DJ K (Itt K a) G ds := fun B i G' H' σ ρ fp s R => by
  have hl : SqT K H' a xs := R.co.sub.t (s.t h)
  refine ⟨fun le => ⟨xs, hl, by rw [r.length]; exact le⟩, fun d e => ?_⟩
  obtain ⟨v, ev, rv⟩ := r.get e
  refine ⟨⟨xs, v, hl, ev⟩, fun x H'' y => ?_⟩
  obtain ⟨rfl, y⟩ := y
  have := y xs hl
  rw [ev] at this
  injection this with this
  subst this
  exact ⟨G', Nxt.refl R, rv.mono s⟩
def rgD (lo c : Int) (n : Nat) : List DD := (List.range n).map fun (i : Nat) => DD.int (lo + ((i : Nat) : Int) * c)
theorem dj_rangeC {lo c : Int} {n : Nat} : DJ K (Itc lo c n) G (rgD lo c n) := fun B i G' H' σ ρ fp s R => by
  refine ⟨fun le => by simpa [rgD, Itc] using le, fun d e => ?_⟩
  have hi : i < n := by
    have := (List.getElem?_eq_some_iff.mp e).1
    simpa [rgD] using this
  have ed : d = .int (lo + (i : Int) * c) := by
    simp [rgD, List.getElem?_map, List.getElem?_range hi] at e
    exact e.symm
  refine ⟨hi, fun x H'' y => ?_⟩
  obtain ⟨rfl, rfl⟩ := y
  exact ⟨G', Nxt.refl R, by rw [ed]; exact .int _⟩
theorem dj_range {lo : Int} {n : Nat} : DJ K (Itr lo n) G (rgD lo 1 n) := fun B i G' H' σ ρ fp s R => by
  refine ⟨fun le => by simpa [rgD, Itr] using le, fun d e => ?_⟩
  have hi : i < n := by
    have := (List.getElem?_eq_some_iff.mp e).1
    simpa [rgD] using this
  have ed : d = .int (lo + (i : Int)) := by
    simp [rgD, List.getElem?_map, List.getElem?_range hi] at e
    exact e.symm
  refine ⟨hi, fun x H'' y => ?_⟩
  obtain ⟨rfl, rfl⟩ := y
  exact ⟨G', Nxt.refl R, by rw [ed]; exact .int _⟩
def strD (x : Str) : List DD := x.cps.toList.map fun c => DD.str ⟨#[c]⟩
theorem dj_str {x : Str} : DJ K (Its x) G (strD x) := fun B i G' H' σ ρ fp s R => by
  refine ⟨fun le => by simpa [strD, Its] using le, fun d e => ?_⟩
  have hi : i < x.cps.size := by
    have := (List.getElem?_eq_some_iff.mp e).1
    simpa [strD] using this
  have ed : d = .str ⟨#[x.cps[i]]⟩ := by
    simp [strD, List.getElem?_map, hi] at e
    exact e.symm
  refine ⟨hi, fun y H'' h => ?_⟩
  obtain ⟨rfl, c, ec, rfl⟩ := h
  have : c = x.cps[i] := by simp [hi] at ec; exact ec.symm
  subst this
  exact ⟨G', Nxt.refl R, by rw [ed]; exact .str _⟩
def enumD (ds : List DD) : List DD := ds.zipIdx.map fun p => DD.tup [.int (p.2 : Nat), p.1]
theorem enumD_get {ds : List DD} {i : Nat} {d : DD} (e : (enumD ds)[i]? = some d) : ∃ z, ds[i]? = some z ∧ d = .tup [.int (i : Nat), z] := by
  unfold enumD at e
  rw [List.getElem?_map, List.getElem?_zipIdx] at e
  cases q : ds[i]? with
  | none => rw [q] at e; cases e
  | some z => rw [q] at e; simp at e; exact ⟨z, rfl, e.symm⟩
@[simp] theorem enumD_len (ds : List DD) : (enumD ds).length = ds.length := by simp [enumD]
theorem dj_enum {a : Addr} {xs : List V} {ds : List DD} (h : Rd G a (.lst xs)) (r : RqA K G xs ds) : DJ K (Ite K a) G (enumD ds) := fun B i G' H' σ ρ fp s R => by
  have hl : SqL K H' a xs := .inl (R.co.sub.rd (s.rd h))
  refine ⟨fun le => ⟨xs, hl, by rw [r.length]; rw [enumD_len] at le; exact le⟩, fun d e => ?_⟩
  obtain ⟨z, ez, rfl⟩ := enumD_get e
  obtain ⟨v, ev, rv⟩ := r.get ez
  refine ⟨⟨xs, v, hl, ev⟩, fun x H'' y => ?_⟩
  obtain ⟨T, w, rfl, hT, rfl, y⟩ := y
  have := y xs hl
  rw [ev] at this
  injection this with this
  subst this
  have n := Nxt.stand R (o := .tup [.int (i : Nat), v]) hT
  exact ⟨_, n, .tup (.inl (.inl upd_same)) (.cons (.int _) (.cons ((rv.mono s).mono n.st.ex) .nil))⟩
def zipD (xs ys : List DD) : List DD := (xs.zip ys).map fun p => DD.tup [p.1, p.2]
theorem zipD_get {xs ys : List DD} {i : Nat} {d : DD} (e : (zipD xs ys)[i]? = some d) : ∃ x y, xs[i]? = some x ∧ ys[i]? = some y ∧ d = .tup [x, y] := by
  unfold zipD at e
  rw [List.getElem?_map] at e
  cases q : (xs.zip ys)[i]? with
  | none => rw [q] at e; cases e
  | some z =>
    rw [q] at e
    obtain ⟨h1, h2⟩ := List.getElem?_zip_eq_some.mp q
    exact ⟨z.1, z.2, h1, h2, by simp at e; exact e.symm⟩
theorem zipD_len (xs ys : List DD) : (zipD xs ys).length = min xs.length ys.length := by simp [zipD]
theorem dj_zip {a b : Addr} {xs ys : List V} {ds es : List DD} (h : Rd G a (.lst xs)) (r : RqA K G xs ds) (h2 : Rd G b (.lst ys)) (r2 : RqA K G ys es) : DJ K (Itz K a b) G (zipD ds es) := fun B i G' H' σ ρ fp s R => by
  have hl : SqL K H' a xs := .inl (R.co.sub.rd (s.rd h))
  have hl2 : SqL K H' b ys := .inl (R.co.sub.rd (s.rd h2))
  refine ⟨fun le => ⟨xs, ys, hl, hl2, by rw [r.length, r2.length]; rw [zipD_len] at le; omega⟩, fun d e => ?_⟩
  obtain ⟨x, y, ex, ey, rfl⟩ := zipD_get e
  obtain ⟨v, ev, rv⟩ := r.get ex
  obtain ⟨w, ew, rw'⟩ := r2.get ey
  refine ⟨⟨xs, ys, v, w, hl, hl2, ev, ew⟩, fun x H'' q => ?_⟩
  obtain ⟨T, v', w', rfl, hT, rfl, q1, q2⟩ := q
  have e1 := q1 xs hl
  have e2 := q2 ys hl2
  rw [ev] at e1
  rw [ew] at e2
  injection e1 with e1
  injection e2 with e2
  subst e1 e2
  have n := Nxt.stand R (o := .tup [v, w]) hT
  exact ⟨_, n, .tup (.inl (.inl upd_same)) (.cons ((rv.mono s).mono n.st.ex) (.cons ((rw'.mono s).mono n.st.ex) .nil))⟩
end
section
variable {X : Cx} {io : List Nat} {e a b c tg : Expr} {pos p : Pos} {fv : FV} {fos : FOs}
/-- a list, a tuple, a text -/
@[simp] def iLst (fv : FV) : FI := fun ρ Q => fv ρ fun d ρ1 => ∃ ds, d = .lst ds ∧ Q ds ρ1
@[simp] def iTpl (fv : FV) : FI := fun ρ Q => fv ρ fun d ρ1 => ∃ ds, d = .tup ds ∧ Q ds ρ1
@[simp] def iStrD (fv : FV) : FI := fun ρ Q => fv ρ fun d ρ1 => ∃ x, d = .str x ∧ Q (strD x) ρ1
theorem i_lst (h : PDv X io e fv) : PDi X io tg e (iLst fv) := by
  obtain ⟨_, a1, a2⟩ := h
  refine ⟨_, pi_list a1, fun B G H σ ρ fp Qd Rr hB R hf k => ?_⟩
  refine a2 B G H σ ρ fp _ _ hB R hf fun d ρ1 v G1 H1 fp1 n r ⟨ds, ed, q⟩ => ?_
  subst ed
  obtain ⟨p, xs, ev, h, rs⟩ := r.lst_inv
  exact ⟨p, ev, ⟨xs, .inl (n.rp.co.sub.rd h)⟩, k _ _ _ _ _ _ n (dj_list h rs) q⟩
theorem i_tpl (h : PDv X io e fv) : PDi X io tg e (iTpl fv) := by
  obtain ⟨_, a1, a2⟩ := h
  refine ⟨_, pi_tup a1, fun B G H σ ρ fp Qd Rr hB R hf k => ?_⟩
  refine a2 B G H σ ρ fp _ _ hB R hf fun d ρ1 v G1 H1 fp1 n r ⟨ds, ed, q⟩ => ?_
  subst ed
  obtain ⟨p, xs, ev, h, rs⟩ := r.tup_inv
  exact ⟨p, ev, ⟨xs, n.rp.co.sub.t h⟩, k _ _ _ _ _ _ n (dj_tup h rs) q⟩
theorem i_str (h : PDv X io e fv) : PDi X io tg e (iStrD fv) := by
  obtain ⟨_, a1, a2⟩ := h
  refine ⟨_, pi_str a1, fun B G H σ ρ fp Qd Rr hB R hf k => ?_⟩
  refine a2 B G H σ ρ fp _ _ hB R hf fun d ρ1 v G1 H1 fp1 n r ⟨x, ed, q⟩ => ?_
  subst ed
  exact ⟨x, r.str_inv, k _ _ _ _ _ _ n dj_str q⟩
theorem Paired.rqOne {K : PySem.W.Frag} {B : Bs} {σ : L2.St} {G H : Hp} {ρ : Rho} {fp : Nat → List Addr} (R : Rp K B G H σ ρ fp) {vs : List V} {os : List OV} {d : DD} (h : Paired (OVR K G σ) vs os) (e : resDs ρ os = some [d]) : ∃ v, vs = [v] ∧ Rq K H v d := (Paired.rqH R h e).one
@[simp] def iRg1 (fos : FOs) : FI := fun ρ Q => fos ρ fun os ρ1 => ∃ j : Int, resDs ρ1 os = some [.int j] ∧ -(2 ^ 62) ≤ j ∧ j < 2 ^ 62 ∧ Q (rgD 0 1 j.toNat) ρ1
theorem i_rg1 (hm : X.mg "range" = none) (h : PDos X io [a] fos) (hg : Gl X "range" := by rfl) (hs : starEach [a] X.env = [(false, eval a X.env)] := by rfl) : PDi X io tg (.Call (.Name "range" p) [a] [] pos) (iRg1 fos) := by
  obtain ⟨_, a1, a2⟩ := h
  refine ⟨_, pi_range1 hg hm a1 hs, fun B G H σ ρ fp Qd Rr hB R hf k => ?_⟩
  refine a2 B G H σ ρ fp _ _ hB R hf fun os ρ1 vs G1 H1 fp1 n o ⟨j, e, l1, l2, q⟩ => ?_
  obtain ⟨v, rfl, r⟩ := Paired.rqOne n.rp o e
  exact ⟨j, by rw [r.int_inv], l1, l2, k _ _ _ _ _ _ n dj_range q⟩
@[simp] def iRg2 (fos : FOs) : FI := fun ρ Q => fos ρ fun os ρ1 => ∃ i j : Int, resDs ρ1 os = some [.int i, .int j] ∧ (-(2 ^ 62) ≤ i ∧ i < 2 ^ 62 ∧ -(2 ^ 62) ≤ j ∧ j < 2 ^ 62) ∧ Q (rgD i 1 (j - i).toNat) ρ1
theorem i_rg2 (hm : X.mg "range" = none) (h : PDos X io [a, b] fos) (hg : Gl X "range" := by rfl) (hs : starEach [a, b] X.env = [(false, eval a X.env), (false, eval b X.env)] := by rfl) (hs2 : starEach [b] X.env = [(false, eval b X.env)] := by rfl) : PDi X io tg (.Call (.Name "range" p) [a, b] [] pos) (iRg2 fos) := by
  obtain ⟨_, a1, a2⟩ := h
  refine ⟨_, pi_range2 hg hm a1 hs hs2, fun B G H σ ρ fp Qd Rr hB R hf k => ?_⟩
  refine a2 B G H σ ρ fp _ _ hB R hf fun os ρ1 vs G1 H1 fp1 n o ⟨i, j, e, l, q⟩ => ?_
  obtain ⟨v, w, rfl, r, r2⟩ := (Paired.rqH n.rp o e).two
  exact ⟨i, j, by rw [r.int_inv, r2.int_inv], l, k _ _ _ _ _ _ n dj_range q⟩
@[simp] def iRg3 (fos : FOs) : FI := fun ρ Q => fos ρ fun os ρ1 => ∃ (i j c : Int) (n : Nat), resDs ρ1 os = some [.int i, .int j, .int c] ∧ RgC i j c n ∧ Q (rgD i c n) ρ1
theorem RqA.three {K : PySem.W.Frag} {G : Hp} {xs : List V} {d e f : DD} (h : RqA K G xs [d, e, f]) : ∃ x y z, xs = [x, y, z] ∧ Rq K G x d ∧ Rq K G y e ∧ Rq K G z f := by
  cases h with
  | cons a b => cases b with | cons b c => cases c with | cons c d => cases d; exact ⟨_, _, _, rfl, a, b, c⟩
theorem i_rg3 (hm : X.mg "range" = none) (h : PDos X io [a, b, c] fos) (hg : Gl X "range" := by rfl) (hs : starEach [a, b, c] X.env = (false, eval a X.env) :: starEach [b, c] X.env := by rfl) (hpl : (backTo pos (starEach [b, c] X.env)).any (·.1) = false := by rfl) : PDi X io tg (.Call (.Name "range" p) [a, b, c] [] pos) (iRg3 fos) := by
  obtain ⟨_, a1, a2⟩ := h
  refine ⟨_, pi_range3 hg hm a1 hs hpl, fun B G H σ ρ fp Qd Rr hB R hf k => ?_⟩
  refine a2 B G H σ ρ fp _ _ hB R hf fun os ρ1 vs G1 H1 fp1 n o ⟨i, j, c, m, e, l, q⟩ => ?_
  obtain ⟨v, w, u, rfl, r, r2, r3⟩ := (Paired.rqH n.rp o e).three
  exact ⟨i, j, c, m, by rw [r.int_inv, r2.int_inv, r3.int_inv], l, k _ _ _ _ _ _ n dj_rangeC q⟩
/-- enumerate(e), zip(a, b): data lists -/
abbrev FDs := Rho → (List DD → Rho → Prop) → Prop
@[simp] def sD (fs : FSs) : FDs := fun ρ Q => fs ρ fun ts ρ1 => Q (ts.map SV.data) ρ1
@[simp] def iEn (fs : FSs) : FI := fun ρ Q => sD fs ρ fun ds ρ1 => ∃ l, ds = [.lst l] ∧ Q (enumD l) ρ1
theorem ds_sealed {ta : TA} {fs : FSs} (h : DSv X.K io ta fs) : ∀ (B : Bs) G H σ ρ fp (Qd : List DD → Rho → Prop) (Q : List V → Hp → Prop), B.io = io → Rp X.K B G H σ ρ fp → sD fs ρ Qd →
    (∀ ds ρ' vs G' H' fp', Nxt X.K B σ G H fp G' H' ρ' fp' → RqA X.K G' vs ds → Qd ds ρ' → Q vs H') → ta σ H Q := fun B G H σ ρ fp Qd Q hB R hf k =>
  h B G H σ ρ fp _ _ hB R hf fun ts ρ' vs G' H' fp' fr n os t1 t2 q => by
    obtain ⟨n2, r⟩ := Nxt.sealeds R n os t1 t2
    exact k _ _ _ _ _ _ n2 r q
theorem i_en {elts : List Expr} {kk : Nat} {tpos : Pos} {fs : FSs} (hm : X.mg "enumerate" = none) (h : PDs' X io [e] fs) (hg : Gl X "enumerate" := by rfl) (hs : starEach [e] X.env = [(false, eval e X.env)] := by rfl) : PDi X io (.Tuple elts kk tpos) (.Call (.Name "enumerate" p) [e] [] pos) (iEn fs) := by
  obtain ⟨_, a1, a2⟩ := h
  refine ⟨_, pi_enum hg hm a1 hs, fun B G H σ ρ fp Qd Rr hB R hf k => ?_⟩
  refine ds_sealed a2 B G H σ ρ fp _ _ hB R hf fun ds ρ1 vs G1 H1 fp1 n r ⟨l, ed, q⟩ => ?_
  subst ed
  obtain ⟨v, rfl, r1⟩ := r.one
  obtain ⟨p, xs, ev, h, rs⟩ := r1.lst_inv
  exact ⟨p, xs, by rw [ev], .inl (n.rp.co.sub.rd h), k _ _ _ _ _ _ n (dj_enum h rs) q⟩
@[simp] def iZp (fs : FSs) : FI := fun ρ Q => sD fs ρ fun ds ρ1 => ∃ l m, ds = [.lst l, .lst m] ∧ Q (zipD l m) ρ1
theorem i_zp {elts : List Expr} {kk : Nat} {tpos : Pos} {fs : FSs} (hm : X.mg "zip" = none) (h : PDs' X io [a, b] fs) (hg : Gl X "zip" := by rfl) (hs : starEach [a, b] X.env = (false, eval a X.env) :: starEach [b] X.env := by rfl) (hpl : (backTo pos (starEach [b] X.env)).any (·.1) = false := by rfl) :
    PDi X io (.Tuple elts kk tpos) (.Call (.Name "zip" p) [a, b] [] pos) (iZp fs) := by
  obtain ⟨_, a1, a2⟩ := h
  refine ⟨_, pi_zip hg hm a1 hs hpl, fun B G H σ ρ fp Qd Rr hB R hf k => ?_⟩
  refine ds_sealed a2 B G H σ ρ fp _ _ hB R hf fun ds ρ1 vs G1 H1 fp1 n r ⟨l, m, ed, q⟩ => ?_
  subst ed
  obtain ⟨v, w, rfl, r1, r2⟩ := r.two
  obtain ⟨p, xs, ev, h, rs⟩ := r1.lst_inv
  obtain ⟨p2, ys, ew, h2, rs2⟩ := r2.lst_inv
  exact ⟨p, p2, xs, ys, by rw [ev, ew], .inl (n.rp.co.sub.rd h), .inl (n.rp.co.sub.rd h2), k _ _ _ _ _ _ n (dj_zip h rs h2 rs2) q⟩
/-! for -/
def fFor (fi : FI) (fg : FG) (f : FS) : FS := fun D ρ => fi ρ fun ds ρ1 => ∃ W : Nat → Rho → Prop, W 0 ρ1 ∧ (∀ (i : Nat) d ρ, ds[i]? = some d → W i ρ → fg d ρ fun ρ2 => f { D with nx := W (i + 1), ct := W (i + 1), bk := D.nx } ρ2) ∧ ∀ ρ, W ds.length ρ → D.nx ρ
/-- another floor -/
theorem Rp.floor {K : PySem.W.Frag} {B : Bs} {G H : Hp} {σ : L2.St} {ρ : Rho} {fp : Nat → List Addr} (R : Rp K B G H σ ρ fp) {L : Hp} (h : Sub L G) : Rp K { B with L := L } G H σ ρ fp := ⟨R.co, R.stp, R.own, R.io, h⟩
theorem Rp.unfloor {K : PySem.W.Frag} {B : Bs} {G H : Hp} {σ : L2.St} {ρ : Rho} {fp : Nat → List Addr} {L : Hp} (R : Rp K { B with L := L } G H σ ρ fp) (h : Sub B.L L) : Rp K B G H σ ρ fp := ⟨R.co, R.stp, R.own, R.io, h.trans R.lo⟩
theorem s_for {body : List Stmt} {fi : FI} {fg : FG} {f : FS} (hp : PassesOwn (model X.prog X.w) X.A X.env X.xe) (hc : X.calm = true) {ks : List Nat} (hi : PDi X io tg e fi) (hg : PDg X io ks tg fg) (hb : PDss X io body f) (hs : ∀ x, foldedSetIterable e X.env x = pure x := by intro _; rfl) :
    PDs X io (.For tg e body [] pos) (fFor fi fg f) := by
  obtain ⟨_, a1, a2⟩ := hi
  obtain ⟨_, b1, b2⟩ := hg
  obtain ⟨_, c1, c2⟩ := hb
  refine ⟨_, ps_for hp hc a1 b1 c1 hs, fun B G H σ ρ fp Dd Dh hB R hf s => ?_⟩
  refine a2 B G H σ ρ fp _ _ hB R hf fun ds ρ1 J G1 H1 fp1 n dj ⟨W, w0, hw, hd⟩ => ?_
  have lo : Sub B.L G1 := n.rp.lo
  refine ⟨fun i m σ H => m = ds.length - i ∧ i ≤ ds.length ∧ ∃ G ρ fp, Rp X.K { B with L := G1 } G H σ ρ fp ∧ W i ρ, ⟨_, rfl, Nat.zero_le _, G1, ρ1, fp1, n.rp.floor (Sub.refl _), w0⟩, ?_⟩
  rintro i m σ2 H2 ⟨rfl, hi, G2, ρ2, fp2, R2, w2⟩
  obtain ⟨j1, j2⟩ := dj _ i G2 H2 σ2 ρ2 fp2 R2.lo R2
  by_cases hlt : i < ds.length
  · obtain ⟨d, ed⟩ : ∃ d, ds[i]? = some d := ⟨ds[i], List.getElem?_eq_getElem hlt⟩
    obtain ⟨go, y⟩ := j2 d ed
    refine .inr ⟨go, fun σ' H' => ∃ G ρ fp, Rp X.K { B with L := G1 } G H' σ' ρ fp ∧ W (i + 1) ρ, fun σ' H' q => ⟨ds.length - (i + 1), by omega, rfl, hlt, q⟩, fun x H3 yx => ?_⟩
    obtain ⟨G3, n3, r3⟩ := y x H3 yx
    refine b2 _ G3 H3 σ2 ρ2 fp2 x d _ _ (by exact hB) n3.rp r3 (hw i d ρ2 ed w2) fun σ4 ρ4 fp4 R4 _ _ q4 => ?_
    exact c2 _ G3 H3 σ4 ρ4 fp4 _ _ (by exact hB) R4 q4 ⟨fun G H σ ρ fp R z => ⟨G, ρ, fp, R, z⟩, fun G H σ ρ fp r v fr R o t1 t2 z => s.rt G H σ ρ fp r v fr (R.unfloor lo) o t1 t2 z, fun G H σ ρ fp R z => s.nx G H σ ρ fp (R.unfloor lo) z, fun G H σ ρ fp R z => ⟨G, ρ, fp, R, z⟩⟩
  · have e : i = ds.length := by omega
    subst e
    exact .inl ⟨j1 (Nat.le_refl _), s.nx _ _ _ _ _ (R2.unfloor lo) (hd ρ2 w2)⟩
end
end DL

namespace DL
open PySem PySem.Spec PyProof.Rows L2
/-! ### list comprehensions -/
def canE (K : PySem.W.Frag) (io : List Nat) (fe : FE) : TE := fun σ H Q => ∃ (B : Bs) (G : Hp) (ρ : Rho) (fp : Nat → List Addr) (Qd : SV → Rho → Prop), B.io = io ∧ Rp K B G H σ ρ fp ∧ fe ρ Qd ∧
  ∀ r ρ' v G' H' fp' fr, Nxt K B σ G H fp G' H' ρ' fp' → OT K G' H' v r fr → (∀ a ∈ fr, ¬ In fp' a) → (∀ a ∈ fr, H a = none ∨ In fp a) → Qd r ρ' → Q v H'
def canT (K : PySem.W.Frag) (io : List Nat) (ft : FT) : TT := fun σ H Q => ∃ (B : Bs) (G : Hp) (ρ : Rho) (fp : Nat → List Addr) (Qd : Bool → Rho → Prop), B.io = io ∧ Rp K B G H σ ρ fp ∧ ft ρ Qd ∧
  ∀ b ρ' G' H' fp', Nxt K B σ G H fp G' H' ρ' fp' → Qd b ρ' → Q b H'
def canG (K : PySem.W.Frag) (io ks : List Nat) (fg : FG) : TG := fun v σ H Q => ∃ (B : Bs) (G : Hp) (ρ : Rho) (fp : Nat → List Addr) (d : DD) (Qd : Rho → Prop), B.io = io ∧ Rp K B G H σ ρ fp ∧ Rq K G v d ∧ fg d ρ Qd ∧
  ∀ σ' ρ' fp', Rp K B G H σ' ρ' fp' → (∀ a, In fp' a → In fp a) → (σ'.length = σ.length ∧ ∀ j, j ∉ ks → σ'[j]? = σ[j]?) → Qd ρ' → Q σ' H
section
variable {X : Cx} {io ks : List Nat} {e : Expr}
theorem PDe.can {fe : FE} (h : PDe X io e fe) : PE X e (canE X.K io fe) := by
  obtain ⟨te, h1, h2⟩ := h
  exact ⟨fun pins s σ H Q I ⟨B, G, ρ, fp, Qd, hB, R, hf, k⟩ => h1.run pins s σ H Q I (h2 B G H σ ρ fp Qd Q hB R hf k)⟩
theorem PDg.can {fg : FG} (h : PDg X io ks e fg) : PG X e (canG X.K io ks fg) := by
  obtain ⟨te, h1, h2⟩ := h
  exact ⟨fun pins s σ H v u Q I r ⟨B, G, ρ, fp, d, Qd, hB, R, rq, hf, k⟩ => h1.run pins s σ H v u Q I r (h2 B G H σ ρ fp v d Qd Q hB R rq hf k)⟩
def PDts (X : Cx) (io : List Nat) (ifs : List Expr) (ft : FT) : Prop := ∃ tt, PTs X ifs tt ∧ DT X.K io tt ft
@[simp] def fYes : FT := fun ρ Q => Q true ρ
theorem ifs_nil : PDts X io [] fYes := ⟨_, pts_nil, fun B G H σ ρ fp Qd Q hB R hf k => k true ρ G H fp (Nxt.refl R) hf⟩
theorem ifs_one {c : Expr} {ft : FT} (h : PDt X io c ft) : PDts X io [c] ft := let ⟨_, a, b⟩ := h; ⟨_, pts_one a, b⟩
theorem PDts.can {ifs : List Expr} {ft : FT} (h : PDts X io ifs ft) : PTs X ifs (canT X.K io ft) := by
  obtain ⟨te, h1, h2⟩ := h
  exact ⟨fun pins s σ H Q I ⟨B, G, ρ, fp, Qd, hB, R, hf, k⟩ => h1.run pins s σ H Q I (h2 B G H σ ρ fp Qd Q hB R hf k)⟩
end
def wipeR (ρ : Rho) : List Nat → Rho
  | [] => ρ
  | v :: vs => (wipeR ρ vs).set v none
def unwipe (ρ4 ρ : Rho) : List Nat → Rho
  | [] => ρ4
  | v :: vs => (unwipe ρ4 ρ vs).set v (ρ[v]?.join)
def plainB (ρ : Rho) (vs : List Nat) : Bool := vs.all fun v => match ρ[v]? with
  | some (some (.dat _)) => true
  | some (some _) => false
  | _ => true
theorem wipe_len (σ : L2.St) (vs : List Nat) : (wipe σ vs).length = σ.length := wipe_length σ vs
theorem wipeR_len (ρ : Rho) : ∀ vs, (wipeR ρ vs).length = ρ.length
  | [] => rfl
  | v :: vs => by rw [wipeR, List.length_set, wipeR_len ρ vs]
theorem unwipe_len (ρ4 ρ : Rho) : ∀ vs, (unwipe ρ4 ρ vs).length = ρ4.length
  | [] => rfl
  | v :: vs => by rw [unwipe, List.length_set, unwipe_len ρ4 ρ vs]
theorem wipeR_out {ρ : Rho} {j : Nat} : ∀ {vs}, j ∉ vs → (wipeR ρ vs)[j]? = ρ[j]?
  | [], _ => rfl
  | v :: vs, h => by
    rw [wipeR, List.getElem?_set_ne (fun e => h (by rw [e]; exact List.mem_cons_self)), wipeR_out fun m => h (List.mem_cons_of_mem _ m)]
theorem wipeR_in {ρ : Rho} {j : Nat} {t : SV} : ∀ {vs}, j ∈ vs → (wipeR ρ vs)[j]? ≠ some (some t)
  | v :: vs, h => by
    rw [wipeR]
    by_cases e : v = j
    · subst e
      by_cases hl : v < (wipeR ρ vs).length
      · rw [List.getElem?_set_self hl]; simp
      · rw [List.getElem?_eq_none (by simpa using hl)]; simp
    · rw [List.getElem?_set_ne e]
      rcases List.mem_cons.mp h with z | z
      · exact absurd z.symm e
      · exact wipeR_in z
theorem unwipe_out {ρ4 ρ : Rho} {j : Nat} : ∀ {vs}, j ∉ vs → (unwipe ρ4 ρ vs)[j]? = ρ4[j]?
  | [], _ => rfl
  | v :: vs, h => by
    rw [unwipe, List.getElem?_set_ne (fun e => h (by rw [e]; exact List.mem_cons_self)), unwipe_out fun m => h (List.mem_cons_of_mem _ m)]
theorem unwipe_in {ρ4 ρ : Rho} {j : Nat} {t : SV} : ∀ {vs}, j ∈ vs → (unwipe ρ4 ρ vs)[j]? = some (some t) → ρ[j]? = some (some t)
  | v :: vs, h, e => by
    rw [unwipe] at e
    by_cases ev : v = j
    · subst ev
      by_cases hl : v < (unwipe ρ4 ρ vs).length
      · rw [List.getElem?_set_self hl] at e
        injection e with e
        exact join_some e
      · rw [List.getElem?_eq_none (by simpa using hl)] at e; cases e
    · rw [List.getElem?_set_ne ev] at e
      rcases List.mem_cons.mp h with z | z
      · exact absurd z.symm ev
      · exact unwipe_in z e
theorem plainB_of {ρ : Rho} {vs : List Nat} (h : plainB ρ vs = true) {v : Nat} (m : v ∈ vs) {t : SV} (e : ρ[v]? = some (some t)) : ∃ d, t = .dat d := by
  have := List.all_eq_true.mp h v m
  simp only [e] at this
  cases t with
  | dat d => exact ⟨d, rfl⟩
  | own _ => cases this
  | ob _ _ => cases this
  | tp _ => cases this
theorem wipe_outS {σ : L2.St} {j : Nat} : ∀ {vs : List Nat}, j ∉ vs → (wipe σ vs)[j]? = σ[j]? := fun h => L2.wipe_out h
theorem wipe_in_none {σ : L2.St} {j : Nat} : ∀ {vs : List Nat}, j ∈ vs → (wipe σ vs)[j]? = if j < σ.length then some none else none
  | v :: vs, h => by
    rw [wipe]
    by_cases e : v = j
    · subst e
      by_cases hl : v < σ.length
      · rw [if_pos hl, List.getElem?_set_self (by rw [wipe_length]; exact hl)]
      · rw [if_neg hl, List.getElem?_eq_none (by rw [List.length_set, wipe_length]; omega)]
    · rw [List.getElem?_set_ne e]
      rcases List.mem_cons.mp h with z | z
      · exact absurd z.symm e
      · exact wipe_in_none z
theorem wipe_eq {σ σ' : L2.St} {vs ks : List Nat} (hk : ∀ k ∈ ks, k ∈ vs) (hl : σ'.length = σ.length) (h : ∀ j, j ∉ ks → σ'[j]? = (wipe σ vs)[j]?) : wipe σ' vs = wipe σ vs := by
  apply List.ext_getElem?
  intro j
  by_cases m : j ∈ vs
  · rw [wipe_in_none m, wipe_in_none m, hl]
  · rw [wipe_outS m, h j fun z => m (hk j z)]
section
variable {K : PySem.W.Frag} {B : Bs} {σ : L2.St} {G H G' H' : Hp} {ρ ρ' : Rho} {fp fp' : Nat → List Addr} {vs : List Nat}
theorem Rp.wiped (R : Rp K B G H σ ρ fp) (hv : plainB ρ vs = true) (hio : ∀ v ∈ vs, v ∉ B.io) : Rp K B G H (wipe σ vs) (wipeR ρ vs) fp := by
  refine ⟨⟨by rw [wipe_length, wipeR_len]; exact R.co.len, R.co.sub, fun i t h => ?_, fun i h => ?_, R.co.dis⟩, R.stp, R.own, fun i m => ?_, R.lo⟩
  · have m : i ∉ vs := fun m => wipeR_in m h
    rw [wipeR_out m] at h
    rw [wipe_outS m]
    exact R.co.slot i t h
  · by_cases m : i ∈ vs
    · by_cases q : ∃ t, ρ[i]? = some (some t)
      · obtain ⟨t, q⟩ := q
        obtain ⟨d, rfl⟩ := plainB_of hv m q
        obtain ⟨v, _, ot⟩ := R.co.slot i _ q
        exact ot.dat_inv.2
      · exact R.co.nil i fun t e => q ⟨t, e⟩
    · exact R.co.nil i fun t e => h t (by rw [wipeR_out m]; exact e)
  · obtain ⟨v, t, h1, h2, h3⟩ := R.io i m
    have ni : i ∉ vs := fun z => hio i z m
    exact ⟨v, t, h1, by rw [wipe_outS ni]; exact h2, by rw [wipeR_out ni]; exact h3⟩
/-- back from a block: σ2 is the block's slots -/
theorem Rp.unwiped {σ2 : L2.St} (R : Rp K B G H σ ρ fp) (hv : plainB ρ vs = true) (hio : ∀ v ∈ vs, v ∉ B.io) (R2 : Rp K B G' H' σ2 ρ' fp') (hs : ∀ j, j ∉ vs → σ2[j]? = σ[j]?) (s : Sub G G') (hl : σ2.length = σ.length) :
    Rp K B G' H' σ (unwipe ρ' ρ vs) (fun j => if j ∈ vs then [] else fp' j) := by
  refine ⟨⟨by rw [unwipe_len, ← R2.co.len, hl], R2.co.sub, fun i t h => ?_, fun i h => ?_, fun i j a m1 m2 => ?_⟩, R2.stp, fun a h => ?_, fun i m => ?_, R2.lo⟩
  · by_cases m : i ∈ vs
    · have e := unwipe_in m h
      obtain ⟨d, rfl⟩ := plainB_of hv m e
      obtain ⟨v, e1, ot⟩ := R.co.slot i _ e
      refine ⟨v, e1, ?_⟩
      simp only [if_pos m]
      exact .dat (ot.dat_inv.1.mono s)
    · rw [unwipe_out m] at h
      obtain ⟨v, e1, ot⟩ := R2.co.slot i t h
      refine ⟨v, by rw [← hs i m]; exact e1, ?_⟩
      simp only [if_neg m]; exact ot
  · by_cases m : i ∈ vs
    · exact if_pos m
    · simp only [if_neg m]
      exact R2.co.nil i fun t e => h t (by rw [unwipe_out m]; exact e)
  · by_cases e1 : i ∈ vs
    · simp [e1] at m1
    · by_cases e2 : j ∈ vs
      · simp [e2] at m2
      · simp only [if_neg e1] at m1
        simp only [if_neg e2] at m2
        exact R2.co.dis i j a m1 m2
  · obtain ⟨j, m⟩ := h
    by_cases e1 : j ∈ vs
    · simp [e1] at m
    · simp only [if_neg e1] at m
      exact R2.own a ⟨j, m⟩
  · obtain ⟨v, t, h1, h2, h3⟩ := R2.io i m
    have ni : i ∉ vs := fun z => hio i z m
    exact ⟨v, t, h1, by rw [← hs i ni]; exact h2, by rw [unwipe_out ni]; exact h3⟩
end
theorem Nxt.chg {K : PySem.W.Frag} {B : Bs} {σ : L2.St} {G H G' H' : Hp} {ρ ρ' : Rho} {fp fp' : Nat → List Addr} {D : Addr} {o : HO} (R : Rp K B G H σ ρ fp) (n : Nxt K B σ G H fp G' H' ρ' fp') (nD : ¬ In fp' D) (gD : G' D = none) (hD : H D = none ∨ In fp D) :
    Nxt K B σ G H fp G' (upd H' D o) ρ' fp' := by
  have ne : ∀ a, In fp' a → a ≠ D := fun a m e => nD (e ▸ m)
  refine ⟨⟨n.rp.co.grow (Sub.refl _) (fun a m u e => by rw [upd_ne (ne a m)]; exact e) (fun a m => (n.rp.co.here m).2) (fun a u e => ?_), ⟨n.rp.stp.ex, fun a u h e => ?_, n.rp.stp.hid⟩, n.rp.own, n.rp.io, n.rp.lo⟩, ⟨n.st.ex, fun a u h e => ?_, n.st.hid⟩, n.inn⟩
  · have : a ≠ D := fun z => by rw [z, gD] at e; cases e
    rw [upd_ne this]; exact n.rp.co.sub a u e
  · have : a ≠ D := fun z => by
      subst z
      rcases (R.base (fr := [a]) (fun b m => by have : b = a := by simpa using m
                                                subst this; exact hD)) a List.mem_cons_self with y | y
      · exact h y
      · rw [e] at y; cases y
    rw [upd_ne this]; exact n.rp.stp.keep a u h e
  · have : a ≠ D := fun z => by
      subst z
      rcases hD with y | y
      · rw [e] at y; cases y
      · exact h y
    rw [upd_ne this]; exact n.st.keep a u h e
def fLc (io : List Nat) (fi : FI) (fg : FG) (ft : FT) (fe : FE) (vs : List Nat) : FE := fun ρ Q => fi ρ fun ds ρ1 => (∀ v ∈ vs, v ∉ io) ∧ ∃ W : Nat → List SV → Rho → Prop, W 0 [] ρ1 ∧
  (∀ (i : Nat) d acc ρ, ds[i]? = some d → W i acc ρ → plainB ρ vs = true ∧ fg d (wipeR ρ vs) fun ρ2 => ft ρ2 fun b ρ3 => if b = true then fe ρ3 fun r ρ4 => acc.length < sizeLine ∧ W (i + 1) (acc ++ [r]) (unwipe ρ4 ρ vs) else W (i + 1) acc (unwipe ρ3 ρ vs)) ∧
  ∀ acc ρ, W ds.length acc ρ → Q (.own acc) ρ
theorem OTs.snoc {K : PySem.W.Frag} {G H : Hp} {v : V} {t : SV} {f2 : List Addr} : ∀ {vs : List V} {ts : List SV} {f1 : List Addr}, OTs K G H vs ts f1 → OT K G H v t f2 → (∀ a ∈ f1, a ∉ f2) → OTs K G H (vs ++ [v]) (ts ++ [t]) (f1 ++ f2)
  | _, _, _, .nil, o, _ => by
    have := OTs.cons o OTs.nil (fun _ _ z => nomatch z)
    simpa using this
  | _, _, _, .cons (f1 := fa) (f2 := fb) a b d, o, h => by
    have ih := OTs.snoc b o fun x m => h x (List.mem_append_right _ m)
    have := OTs.cons a ih fun x m m' => (List.mem_append.mp m').elim (d x m) (h x (List.mem_append_left _ m))
    simpa [List.append_assoc] using this
section
variable {K : PySem.W.Frag} {io ks vs : List Nat} {wi : TI} {fi : FI} {fg : FG} {ft : FT} {fe : FE}
theorem de_lc (hi : DI K io wi fi) (hk : ∀ k ∈ ks, k ∈ vs) : DE K io (tLc wi (canG K io ks fg) (canT K io ft) (canE K io fe) vs) (fLc io fi fg ft fe vs) := by
  intro B G H σ ρ fp Qd Q hB R hf k
  refine hi B G H σ ρ fp _ _ hB R hf fun ds ρ1 J G1 H1 fp1 n1 dj ⟨hio, W, w0, hw, hd⟩ => ?_
  intro D hD
  have gD : G1 D = none := by
    cases e : G1 D with
    | none => rfl
    | some u => have := n1.rp.co.sub _ _ e; rw [hD] at this; cases this
  have hio' : ∀ v ∈ vs, v ∉ B.io := by rw [hB]; exact hio
  have hHD : H D = none ∨ In fp D := by
    by_cases q : In fp D
    · exact .inr q
    · exact .inl (n1.st.fresh q hD)
  have nD1 : ¬ In fp1 D := fun i => by
    obtain ⟨⟨u, h⟩, _⟩ := n1.rp.co.here i
    rw [hD] at h; cases h
  refine ⟨fun i m H' => m = ds.length - i ∧ i ≤ ds.length ∧ ∃ G' ρ' fp' acc vacc fr, Nxt K B σ G H fp G' H' ρ' fp' ∧ Sub G1 G' ∧ OT K G' H' (.ref D) (.own acc) (D :: fr) ∧ H' D = some (.lst vacc) ∧ OTs K G' H' vacc acc fr ∧
    (∀ a ∈ D :: fr, ¬ In fp' a) ∧ (∀ a ∈ D :: fr, H a = none ∨ In fp a) ∧ W i acc ρ', ⟨_, rfl, Nat.zero_le _, G1, ρ1, fp1, [], [], [], ?_⟩, ?_⟩
  · have n2 := n1.trans (Nxt.laid n1.rp (o := .lst []) hD)
    refine ⟨n2, Sub.refl _, .own upd_same gD .nil (fun z => nomatch z), upd_same, .nil, fun a m => ?_, fun a m => ?_, w0⟩
    · have : a = D := by simpa using m
      subst this; exact nD1
    · have : a = D := by simpa using m
      subst this; exact hHD
  rintro i m H2 ⟨rfl, hi2, G2, ρ2, fp2, acc, vacc, fr, n2, s12, ot, hacc, ots, t1, t2, w2⟩
  obtain ⟨j1, j2⟩ := dj B i G2 H2 σ ρ2 fp2 s12 n2.rp
  by_cases hlt : i < ds.length
  · obtain ⟨d, ed⟩ : ∃ d, ds[i]? = some d := ⟨ds[i], List.getElem?_eq_getElem hlt⟩
    obtain ⟨go, y⟩ := j2 d ed
    refine .inr ⟨go, _, fun H' q => ⟨ds.length - (i + 1), by omega, rfl, hlt, q⟩, fun x H3 yx => ?_⟩
    obtain ⟨G3, n3, r3⟩ := y x H3 yx
    obtain ⟨pl, q⟩ := hw i d acc ρ2 ed w2
    have n23 := n2.trans n3
    have Rw := n3.rp.wiped pl hio'
    -- what is held by the new list stands through all of it
    have hold : ∀ {Ga Ha Gb Hb : Hp} {fa : Nat → List Addr} {f : List Addr}, Stp (In fa) Ga Ha Gb Hb → (∀ a ∈ f, ¬ In fa a) → (∀ a ∈ f, (∃ o, Ha a = some o) ∧ Ga a = none) → (∀ a ∈ f, ∀ o, Ha a = some o → Hb a = some o) ∧ ∀ a ∈ f, Gb a = none := fun st n h => ⟨fun a m o e => st.keep a o (n a m) e, fun a m => by
      obtain ⟨⟨o, e⟩, g⟩ := h a m
      exact st.hid a o (n a m) e g⟩
    have nin : ∀ {fa fb : Nat → List Addr} {Ha : Hp} {f : List Addr}, (∀ a, In fb a → In fa a ∨ Ha a = none) → (∀ a ∈ f, ¬ In fa a) → (∀ a ∈ f, ∃ o, Ha a = some o) → ∀ a ∈ f, ¬ In fb a := fun inn n h a m z => by
      rcases inn a z with y | y
      · exact n a m y
      · obtain ⟨o, e⟩ := h a m
        rw [y] at e; cases e
    have h2 := ot.here
    have ⟨k3, g3⟩ := hold n3.st t1 h2
    have t13 := nin n3.inn t1 fun a m => (h2 a m).1
    have ot3 := ot.mono n3.st.ex k3 g3
    have ots3 := ots.mono n3.st.ex (fun a m => k3 a (List.mem_cons_of_mem _ m)) (fun a m => g3 a (List.mem_cons_of_mem _ m))
    have hacc3 := k3 D List.mem_cons_self _ hacc
    refine ⟨B, G3, wipeR ρ2 vs, fp2, d, _, hB, Rw, r3, q, fun σ4 ρ4 fp4 R4 in4 hs4 q4 => ?_⟩
    have hl4 : σ4.length = σ.length := by rw [hs4.1, wipe_length]
    have hs4' : ∀ j, j ∉ vs → σ4[j]? = σ[j]? := fun j hj => by rw [hs4.2 j fun z => hj (hk j z), wipe_outS hj]
    refine ⟨wipe_eq hk hl4 hs4.2, ?_⟩
    have h3 := ot3.here
    have t14 : ∀ a ∈ D :: fr, ¬ In fp4 a := fun a m z => t13 a m (in4 a z)
    refine ⟨B, G3, ρ4, fp4, _, hB, R4, q4, fun b ρ5 G5 H5 fp5 n5 q5 => ?_⟩
    have ⟨k5, g5⟩ := hold n5.st t14 h3
    have t15 := nin n5.inn t14 fun a m => (h3 a m).1
    have ot5 := ot3.mono n5.st.ex k5 g5
    have ots5 := ots3.mono n5.st.ex (fun a m => k5 a (List.mem_cons_of_mem _ m)) (fun a m => g5 a (List.mem_cons_of_mem _ m))
    have hacc5 := k5 D List.mem_cons_self _ hacc3
    have h5 := ot5.here
    -- back in the frame
    have back : ∀ {Gx Hx : Hp} {ρx : Rho} {fpx : Nat → List Addr}, Rp K B Gx Hx σ4 ρx fpx → Stp (In fp4) G3 H3 Gx Hx → (∀ a, In fpx a → In fp4 a ∨ H3 a = none) → Nxt K B σ G H fp Gx Hx (unwipe ρx ρ2 vs) (fun j => if j ∈ vs then [] else fpx j) := fun {Gx Hx ρx fpx} Rx st inn => by
      have sub : ∀ a, In (fun j => if j ∈ vs then [] else fpx j) a → In fpx a := fun a ⟨j, m⟩ => by
        by_cases e : j ∈ vs
        · simp [e] at m
        · simp only [if_neg e] at m; exact ⟨j, m⟩
      have st' : Stp (In fp) G H Gx Hx := n23.st.trans st fun a z => n23.inn a (in4 a z)
      refine ⟨n3.rp.unwiped pl hio' Rx hs4' st.ex hl4, st', fun a z => ?_⟩
      rcases inn a (sub a z) with y | y
      · exact n23.inn a (in4 a y)
      · by_cases q : In fp a
        · exact .inl q
        · exact .inr (n23.st.fresh q y)
    have sub' : ∀ {fpx : Nat → List Addr} a, In (fun j => if j ∈ vs then [] else fpx j) a → In fpx a := fun {fpx} a ⟨j, m⟩ => by
      by_cases e : j ∈ vs
      · simp [e] at m
      · simp only [if_neg e] at m; exact ⟨j, m⟩
    have s15 : Sub G1 G5 := s12.trans (n3.st.ex.trans n5.st.ex)
    cases b with
    | false =>
      rw [if_neg Bool.false_ne_true] at q5
      refine iteF ?_
      exact ⟨G5, _, _, acc, vacc, fr, back n5.rp n5.st n5.inn, s15, ot5, hacc5, ots5, fun a m z => t15 a m (sub' a z), t2, q5⟩
    | true =>
      rw [if_pos rfl] at q5
      refine iteT ?_
      refine ⟨B, G5, ρ5, fp5, _, hB, n5.rp, q5, fun r ρ6 y G6 H6 fp6 f6 n6 o6 u1 u2 ⟨hz, w6⟩ => ?_⟩
      have ⟨k6, g6⟩ := hold n6.st t15 h5
      have t16 := nin n6.inn t15 fun a m => (h5 a m).1
      have ots6 := ots5.mono n6.st.ex (fun a m => k6 a (List.mem_cons_of_mem _ m)) (fun a m => g6 a (List.mem_cons_of_mem _ m))
      have hacc6 := k6 D List.mem_cons_self _ hacc5
      have nf : ∀ a ∈ D :: fr, a ∉ f6 := fun a m m6 => by
        rcases u2 a m6 with z | z
        · obtain ⟨⟨o, e⟩, _⟩ := h5 a m
          rw [z] at e; cases e
        · exact t15 a m z
      have nDfr : D ∉ fr := by
        obtain ⟨a', vs', f', ev, ef, _, _, _, nn⟩ := ot.own_inv
        injection ef with e1 e2
        subst e1 e2
        exact nn
      have n56 : Nxt K B σ G H fp G6 H6 (unwipe ρ6 ρ2 vs) (fun j => if j ∈ vs then [] else fp6 j) := back n6.rp (n5.st.trans n6.st n5.inn) fun a z => by
        rcases n6.inn a z with y | y
        · exact n5.inn a y
        · by_cases q : In fp4 a
          · exact .inl q
          · exact .inr (n5.st.fresh q y)
      have nD6 : ¬ In (fun j => if j ∈ vs then [] else fp6 j) D := fun z => t16 D List.mem_cons_self (sub' D z)
      have n7 := Nxt.chg (o := .lst (vacc ++ [y])) R n56 nD6 (g6 D List.mem_cons_self) hHD
      have neD : ∀ a ∈ fr, a ≠ D := fun a m e => nDfr (e ▸ m)
      have neD6 : ∀ a ∈ f6, a ≠ D := fun a m e => nf D List.mem_cons_self (e ▸ m)
      have ots7 : OTs K G6 (upd H6 D (.lst (vacc ++ [y]))) (vacc ++ [y]) (acc ++ [r]) (fr ++ f6) :=
        (ots6.mono (Sub.refl _) (fun a m o e => by rw [upd_ne (neD a m)]; exact e) fun a m => (ots6.here a m).2).snoc (o6.mono (Sub.refl _) (fun a m o e => by rw [upd_ne (neD6 a m)]; exact e) fun a m => (o6.here a m).2) fun a m => nf a (List.mem_cons_of_mem _ m)
      have nD7 : D ∉ fr ++ f6 := fun m => (List.mem_append.mp m).elim nDfr (nf D List.mem_cons_self)
      refine ⟨vacc, hacc6, by rw [ots.length]; exact hz, G6, _, _, acc ++ [r], vacc ++ [y], fr ++ f6, n7, s15.trans n6.st.ex, .own upd_same (g6 D List.mem_cons_self) ots7 nD7, upd_same, ots7, fun a m z => ?_, fun a m => ?_, w6⟩
      · rcases List.mem_cons.mp m with e | m
        · subst e; exact nD6 z
        · rcases List.mem_append.mp m with m | m
          · exact t16 a (List.mem_cons_of_mem _ m) (sub' a z)
          · exact u1 a m (sub' a z)
      · rcases List.mem_cons.mp m with e | m
        · exact t2 a (by rw [e]; exact List.mem_cons_self)
        · rcases List.mem_append.mp m with m | m
          · exact t2 a (List.mem_cons_of_mem _ m)
          · rcases u2 a m with z | z
            · by_cases q : In fp a
              · exact .inr q
              · refine .inl ?_
                by_cases q4 : In fp4 a
                · rcases n23.inn a (in4 a q4) with y | y
                  · exact absurd y q
                  · exact y
                · exact n23.st.fresh q (n5.st.fresh q4 z)
            · rcases n5.inn a z with y | y
              · exact (n23.inn a (in4 a y)).symm
              · by_cases q : In fp a
                · exact .inr q
                · exact .inl (n23.st.fresh q y)
  · have e : i = ds.length := by omega
    subst e
    exact .inl ⟨j1 (Nat.le_refl _), k _ ρ2 _ G2 H2 fp2 (D :: fr) n2 ot t1 t2 (hd acc ρ2 w2)⟩
end
end DL

namespace DL
open PySem PySem.Spec PyProof.Rows L2
section
variable {X : Cx} {io ks : List Nat} {e a b : Expr} {pos : Pos}
theorem e_lc {elt tg iter : Expr} {ifs : List Expr} {scope : Scope} {own : List (Str × Nat)} {fi : FI} {fg : FG} {ft : FT} {fe : FE} (hc : X.calm = true) (hN : X.N.Nodup) (hi : PDi X io tg iter fi) (ok : blkC X.N X.env.scope scope own = true)
    (hg : ∀ (s : Shared) (H : Hp) (C : Addr) (cl : List (Str × Addr)) (fp : List Addr), PDg (X.blk s H scope (compEnvC scope cl C X.env) fp) io ks tg fg) (ht : ∀ (s : Shared) (H : Hp) (C : Addr) (cl : List (Str × Addr)) (fp : List Addr), PDts (X.blk s H scope (compEnvC scope cl C X.env) fp) io ifs ft)
    (he : ∀ (s : Shared) (H : Hp) (C : Addr) (cl : List (Str × Addr)) (fp : List Addr), PDe (X.blk s H scope (compEnvC scope cl C X.env) fp) io elt fe) (hk : ∀ k ∈ ks, k ∈ own.map (·.2) := by decide) (hs : ∀ x, foldedSetIterable iter X.env x = pure x := by intro _; rfl) :
    PDe X io (.ListComp elt [⟨tg, iter, ifs, 0⟩] scope pos) (fLc io fi fg ft fe (own.map (·.2))) := by
  obtain ⟨wi, i1, i2⟩ := hi
  exact ⟨_, pe_lc hc hN i1 (blkOk_by ok) (fun s H C cl fp => (hg s H C cl fp).can) (fun s H C cl fp => (ht s H C cl fp).can) (fun s H C cl fp => (he s H C cl fp).can) hs, de_lc i2 hk⟩
theorem s_lc {i : Nat} {y : Str} {py spos : Pos} {elt tg iter : Expr} {ifs : List Expr} {scope : Scope} {own : List (Str × Nat)} {fi : FI} {fg : FG} {ft : FT} {fe : FE} (hc : X.calm = true) (hN : X.N.Nodup) (hi : PDi X io tg iter fi) (ok : blkC X.N X.env.scope scope own = true)
    (hg : ∀ (s : Shared) (H : Hp) (C : Addr) (cl : List (Str × Addr)) (fp : List Addr), PDg (X.blk s H scope (compEnvC scope cl C X.env) fp) io ks tg fg) (ht : ∀ (s : Shared) (H : Hp) (C : Addr) (cl : List (Str × Addr)) (fp : List Addr), PDts (X.blk s H scope (compEnvC scope cl C X.env) fp) io ifs ft)
    (he : ∀ (s : Shared) (H : Hp) (C : Addr) (cl : List (Str × Addr)) (fp : List Addr), PDe (X.blk s H scope (compEnvC scope cl C X.env) fp) io elt fe) (hy : X.N[i]? = some y := by rfl) (hyl : X.env.scope.names.lookup y = some .local := by rfl)
    (hsw : swapsWith (.ListComp elt [⟨tg, iter, ifs, 0⟩] scope pos) (some (.Name y py)) spos.line X.env = pure true := by exact sw_true rfl rfl rfl (by decide +kernel)) (hk : ∀ k ∈ ks, k ∈ own.map (·.2) := by decide) (hs : ∀ x, foldedSetIterable iter X.env x = pure x := by intro _; rfl) :
    PDs X io (.Assign [.Name y py] (.ListComp elt [⟨tg, iter, ifs, 0⟩] scope pos) spos) (fSet io i (fLc io fi fg ft fe (own.map (·.2)))) := by
  obtain ⟨wi, i1, i2⟩ := hi
  exact ⟨_, ps_setLc hc hN hy hyl hsw i1 (blkOk_by ok) (fun s H C cl fp => (hg s H C cl fp).can) (fun s H C cl fp => (ht s H C cl fp).can) (fun s H C cl fp => (he s H C cl fp).can) hs, ds_set (de_lc i2 hk)⟩

/-! list + list, list * int -/
def rCatR : R2 := fun x y H Q => ∃ l b xs zs, x = .ref l ∧ y = .ref b ∧ Rd H l (.lst xs) ∧ Rd H b (.lst zs) ∧ xs.length + zs.length ≤ sizeLine ∧ ∀ p, H p = none → Q (.ref p) (upd H p (.lst (xs ++ zs)))
theorem Inv.rd {pins : List (Addr × Obj)} {σ : L2.St} {H : Hp} {s : Shared} {l : Addr} {xs : List V} (I : L2.Inv X pins σ H s) (h : Rd H l (.lst xs)) : xs.length ≤ sizeLine ∧ ∃ (its : List Value) (n : Nat), Vals xs its ∧ xs.length = its.length ∧ s.heap.get? l = some { cls := .type "list", data := .seq its.toArray n } := by
  obtain ⟨z, its, n, r, e⟩ := h.ok I.hok
  exact ⟨z, its, n, r, r.length, e⟩
theorem op_catR : OpR X (binaryOp .Add) rCatR := by
  intro pins s σ H x y v u Q I rx ry h
  obtain ⟨l, b, xs, zs, rfl, rfl, hH, hB, hz, q⟩ := h
  cases rx
  cases ry
  obtain ⟨z, its, n, r, hl, e⟩ := Inv.rd I hH
  obtain ⟨z2, its2, n2, r2, hl2, e2⟩ := Inv.rd I hB
  refine PySem.P.add_list e e2 ?_ (by rw [List.size_toArray, List.size_toArray]; omega)
  have ea : its.toArray ++ its2.toArray = (its ++ its2).toArray := by simp
  rw [ea]
  exact ⟨.ref _, _, I.lnew (t' := s.toks) (r.append r2) (by rw [List.length_append]; omega), rfl, q _ I.fresh⟩
def rRepR : R2 := fun x y H Q => ∃ l k xs, x = .ref l ∧ y = .int k ∧ Rd H l (.lst xs) ∧ -(2 ^ 63) ≤ k ∧ k < 2 ^ 63 ∧ xs.length * k.toNat ≤ sizeLine ∧
  ∀ p, H p = none → Q (.ref p) (upd H p (.lst (List.replicate k.toNat xs).flatten))
theorem op_repR : OpR X (binaryOp .Mult) rRepR := by
  intro pins s σ H x y v u Q I rx ry h
  obtain ⟨l, k, xs, rfl, rfl, hH, h1, h2, hz, q⟩ := h
  cases rx
  obtain ⟨t, rfl⟩ := ry
  obtain ⟨z, its, n, r, hl, e⟩ := Inv.rd I hH
  have hlen : its.toArray.size * k.toNat ≤ sizeLine := by rw [List.size_toArray, ← hl]; exact hz
  have hcap : ¬ its.toArray.size * k.toNat > (2 ^ 63 - 1) / 8 := by
    have : (sizeLine : Nat) ≤ (2 ^ 63 - 1) / 8 := by decide
    omega
  have hfit : ¬ (!Builtin.List.listFitsIndex k) = true := by
    rw [fitsIndex_both h1 h2]
    exact Bool.false_ne_true
  have hlong : ¬ Builtin.List.listTooLong (its.toArray.size * k.toNat) = true := by
    rw [notLongL hlen]
    exact Bool.false_ne_true
  have hnew : List.foldl (fun x1 x2 => x1 ++ x2) #[] (List.replicate (if its.toArray.isEmpty = true then 0 else k.toNat) its.toArray) = (List.replicate k.toNat its).flatten.toArray := by
    have f0 : ∀ m : Nat, List.foldl (fun x1 x2 => x1 ++ x2) #[] (List.replicate m its.toArray) = (List.replicate m its).flatten.toArray := fun m => by
      have := foldl_rep its m []
      rw [List.nil_append] at this
      exact this
    rw [f0]
    cases its with
    | nil => simp
    | cons a r' => rw [if_neg (by simp)]
  refine wpAny_binaryOp_repeat_ref (T := "list") (U := "int") (by decide) ⟨_, e, rfl⟩ (fun s' => typeIs_int s' k t) noFill_list_mul F.fills_int_mul F.slot_int_rmul repeat_list F.slot_int_index.lookup
    (call_meets F.slot_int_rmul (typeIs_int s k t) F.entry_int_rmul (F.args_int_rmul_2 _ _) (int___rmul___int_list k t l its.toArray n)
      ⟨e, rfl, ⟨_, e, rfl⟩, call_meets F.slot_list_mul ⟨_, e, rfl⟩ F.entry_list_mul (F.args_list_mul_2 _ _) (AutoListH.list___mul___list_int_3 l its.toArray n k t hfit hcap hlong) ⟨e, ?_⟩⟩)
  rw [hnew]
  exact ⟨.ref _, _, I.lnew (t' := s.toks) (r.rep k.toNat) (by rw [PyProof.Rows.lm_len_rep_flat, Nat.mul_comm]; exact hz), rfl, q _ I.fresh⟩
@[simp] def itemsT : SV → Option (List SV)
  | .own ts => some ts
  | .dat (.lst ds) => some (ds.map SV.dat)
  | _ => none
def addT : SV → SV → (SV → Prop) → Prop
  | .dat (.int i), .dat (.int j), P => P (.dat (.int (i + j)))
  | .dat (.str x), .dat (.str y), P => x.length + y.length ≤ sizeLine ∧ P (.dat (.str (x ++ y)))
  | x, y, P => ∃ l m, itemsT x = some l ∧ itemsT y = some m ∧ l.length + m.length ≤ sizeLine ∧ P (.own (l ++ m))
@[simp] def fAddE (fa fb : FE) : FE := fun ρ Q => fa ρ fun x ρ1 => fb ρ1 fun y ρ2 => addT x y fun r => Q r ρ2
theorem items_of {K : PySem.W.Frag} {G H : Hp} {v : V} {t : SV} {f : List Addr} {l : List SV} (o : OT K G H v t f) (sub : Sub G H) (e : itemsT t = some l) : ∃ a xs f', v = .ref a ∧ Rd H a (.lst xs) ∧ OTs K G H xs l f' ∧ ∀ x ∈ f', x ∈ f := by
  cases t with
  | own ts =>
    have : ts = l := Option.some.inj e
    subst this
    obtain ⟨a, vs, f', ev, ef, h, _, os, _⟩ := o.own_inv
    exact ⟨a, vs, f', ev, .inl h, os, fun x m => by rw [ef]; exact List.mem_cons_of_mem _ m⟩
  | dat d =>
    cases d with
    | lst ds =>
      have : ds.map SV.dat = l := Option.some.inj e
      subst this
      obtain ⟨a, xs, ev, h, r⟩ := o.dat_inv.1.lst_inv
      exact ⟨a, xs, [], ev, sub.rd h, r.ots, fun _ z => nomatch z⟩
    | _ => cases e
  | ob _ _ => cases e
  | tp _ => cases e
theorem OTs.append {K : PySem.W.Frag} {G H : Hp} {w : List V} {u : List SV} {f2 : List Addr} : ∀ {vs : List V} {ts : List SV} {f1 : List Addr}, OTs K G H vs ts f1 → OTs K G H w u f2 → (∀ a ∈ f1, a ∉ f2) → OTs K G H (vs ++ w) (ts ++ u) (f1 ++ f2)
  | _, _, _, .nil, o, _ => o
  | _, _, _, .cons (f1 := fa) (f2 := fb) a b d, o, h => by
    have ih := OTs.append b o fun x m => h x (List.mem_append_right _ m)
    have := OTs.cons a ih fun x m m' => (List.mem_append.mp m').elim (d x m) (h x (List.mem_append_left _ m))
    simpa [List.append_assoc] using this
theorem op_addA : OpR X (binaryOp .Add) (fun x y H Q => rI0 (fun i j => .int (i + j)) x y H Q ∨ (∃ i j, x = .str i ∧ y = .str j ∧ i.length + j.length ≤ sizeLine ∧ Q (.str (i ++ j)) H) ∨ rCatR x y H Q) := op_add.or (op_add_str.or op_catR)
/-- two trees in a row: the first one is held while the second one is worked out -/
theorem two_trees {K : PySem.W.Frag} {io : List Nat} {ta tb : TE} {fa fb : FE} (a2 : DE K io ta fa) (b2 : DE K io tb fb) {B : Bs} {G H : Hp} {σ : L2.St} {ρ : Rho} {fp : Nat → List Addr} {R2 : V → V → Hp → Prop} {Qd : SV → SV → Rho → Prop} (hB : B.io = io) (R : Rp K B G H σ ρ fp) (hf : fa ρ fun x ρ1 => fb ρ1 fun y ρ2 => Qd x y ρ2)
    (k : ∀ x y ρ2 v w G2 H2 fp2 f1 f2, Nxt K B σ G H fp G2 H2 ρ2 fp2 → OT K G2 H2 v x f1 → OT K G2 H2 w y f2 → (∀ a ∈ f1, a ∉ f2) → (∀ a ∈ f1, ¬ In fp2 a) → (∀ a ∈ f2, ¬ In fp2 a) → (∀ a ∈ f1, H a = none ∨ In fp a) → (∀ a ∈ f2, H a = none ∨ In fp a) → Qd x y ρ2 → R2 v w H2) :
    ta σ H fun x H1 => tb σ H1 fun y H2 => R2 x y H2 := by
  refine a2 B G H σ ρ fp _ _ hB R hf fun x ρ1 v1 G1 H1 fp1 f1 n1 o1 t1 t1' hf => ?_
  refine b2 B G1 H1 σ ρ1 fp1 _ _ hB n1.rp hf fun y ρ2 w G2 H2 fp2 f2 n2 o2 t2 t2' q => ?_
  have o1' : OT K G2 H2 v1 x f1 := o1.mono n2.st.ex (fun a m o h => n2.st.keep a o (t1 a m) h) fun a m => by
    obtain ⟨⟨u, h⟩, g⟩ := o1.here a m
    exact n2.st.hid a u (t1 a m) h g
  refine k x y ρ2 v1 w G2 H2 fp2 f1 f2 (n1.trans n2) o1' o2 (fun a m m' => ?_) (fun a m i => ?_) t2 t1' (fun a m => ?_) q
  · rcases t2' a m' with z | z
    · obtain ⟨⟨u, h⟩, _⟩ := o1.here a m
      rw [z] at h; cases h
    · exact t1 a m z
  · rcases n2.inn a i with z | z
    · exact t1 a m z
    · obtain ⟨⟨u, h⟩, _⟩ := o1.here a m
      rw [z] at h; cases h
  · rcases t2' a m with z | z
    · by_cases q : In fp a
      · exact .inr q
      · exact .inl (n1.st.fresh q z)
    · exact (n1.inn a z).symm
variable {fa fb : FE}
theorem addT_cases {x y : SV} {P : SV → Prop} (h : addT x y P) : (∃ i j, x = .dat (.int i) ∧ y = .dat (.int j) ∧ P (.dat (.int (i + j)))) ∨ (∃ i j : Str, x = .dat (.str i) ∧ y = .dat (.str j) ∧ i.length + j.length ≤ sizeLine ∧ P (.dat (.str (i ++ j)))) ∨
    ∃ l m, itemsT x = some l ∧ itemsT y = some m ∧ l.length + m.length ≤ sizeLine ∧ P (.own (l ++ m)) := by
  unfold addT at h
  split at h
  · exact .inl ⟨_, _, rfl, rfl, h⟩
  · exact .inr (.inl ⟨_, _, rfl, rfl, h⟩)
  · exact .inr (.inr h)
theorem e_add (ha : PDe X io a fa) (hb : PDe X io b fb) : PDe X io (.BinOp a .Add b pos) (fAddE fa fb) := by
  obtain ⟨ta, a1, a2⟩ := ha
  obtain ⟨tb, b1, b2⟩ := hb
  refine ⟨_, pe_op op_addA a1 b1, fun B G H σ ρ fp Qd Q hB R hf k => ?_⟩
  refine two_trees a2 b2 (Qd := fun x y ρ2 => addT x y fun r => Qd r ρ2) hB R hf fun x y ρ2 v w G2 H2 fp2 f1 f2 n o1 o2 d12 n1 n2 t1 t2 q => ?_
  rcases addT_cases q with ⟨i, j, rfl, rfl, q⟩ | ⟨i, j, rfl, rfl, z, q⟩ | ⟨l, m, el, em, z, q⟩
  · exact .inl ⟨i, j, o1.dat_inv.1.int_inv, o2.dat_inv.1.int_inv, k _ _ _ _ _ _ [] n (.dat (.int _)) (fun _ z => nomatch z) (fun _ z => nomatch z) q⟩
  · exact .inr (.inl ⟨i, j, o1.dat_inv.1.str_inv, o2.dat_inv.1.str_inv, z, k _ _ _ _ _ _ [] n (.dat (.str _)) (fun _ z => nomatch z) (fun _ z => nomatch z) q⟩)
  · obtain ⟨p, xs, g1, ev, h1, os1, s1⟩ := items_of o1 n.rp.co.sub el
    obtain ⟨p2, ys, g2, ew, h2, os2, s2⟩ := items_of o2 n.rp.co.sub em
    refine .inr (.inr ⟨p, p2, xs, ys, ev, ew, h1, h2, by rw [os1.length, os2.length]; exact z, ?_⟩)
    exact new_own R n (os1.append os2 fun a m m' => d12 a (s1 a m) (s2 a m')) (fun a m => (List.mem_append.mp m).elim (fun m => n1 a (s1 a m)) fun m => n2 a (s2 a m)) (fun a m => (List.mem_append.mp m).elim (fun m => t1 a (s1 a m)) fun m => t2 a (s2 a m))
      fun v G'' H'' fp'' fr' n' ot' u1 u2 => k _ _ _ _ _ _ _ n' ot' u1 u2 q
def repT (l : List DD) (k : Int) : List DD := (List.replicate k.toNat l).flatten
@[simp] def fRep (fa fb : FE) : FE := fun ρ Q => fa ρ fun x ρ1 => fb ρ1 fun y ρ2 => ∃ (l : List DD) (j : Int), itemsT x = some (l.map SV.dat) ∧ y = .dat (.int j) ∧ -(2 ^ 63) ≤ j ∧ j < 2 ^ 63 ∧ l.length * j.toNat ≤ sizeLine ∧ Q (.own ((repT l j).map SV.dat)) ρ2
theorem RqA.rep {K : PySem.W.Frag} {G : Hp} {vs : List V} {ds : List DD} (h : RqA K G vs ds) : ∀ n : Nat, RqA K G (List.replicate n vs).flatten (List.replicate n ds).flatten
  | 0 => .nil
  | n + 1 => by
    rw [List.replicate_succ, List.replicate_succ, List.flatten_cons, List.flatten_cons]
    exact h.append (RqA.rep h n)
theorem e_rep (ha : PDe X io a fa) (hb : PDe X io b fb) : PDe X io (.BinOp a .Mult b pos) (fRep fa fb) := by
  obtain ⟨ta, a1, a2⟩ := ha
  obtain ⟨tb, b1, b2⟩ := hb
  refine ⟨_, pe_op op_repR a1 b1, fun B G H σ ρ fp Qd Q hB R hf k => ?_⟩
  refine two_trees a2 b2 hB R hf fun x y ρ2 v w G2 H2 fp2 f1 f2 n o1 o2 d12 n1 n2 t1 t2 ⟨l, j, el, ey, j1, j2, hz, q⟩ => ?_
  subst ey
  obtain ⟨p, xs, g1, ev, h1, os1, s1⟩ := items_of o1 n.rp.co.sub el
  obtain ⟨r, _⟩ := os1.dats
  exact ⟨p, j, xs, ev, o2.dat_inv.1.int_inv, h1, j1, j2, by rw [r.length]; exact hz, new_own R n (r.rep j.toNat).ots (fun _ z => nomatch z) (fun _ z => nomatch z) fun v G'' H'' fp'' fr' n' ot' u1 u2 => k _ _ _ _ _ _ _ n' ot' u1 u2 q⟩
end
end DL

namespace DL
open PySem PySem.Spec PyProof.Rows L2
section
variable {X : Cx} {io ks : List Nat} {e a b : Expr} {pos p : Pos} {fa fb : FO}
/-! list(x), tuple(x) -/
def lstT : SV → (List DD → Prop) → Prop
  | .dat (.lst ds), P => P ds
  | .dat (.tup ds), P => P ds
  | .own ts, P => ∃ ds : List DD, ts = ds.map SV.dat ∧ P ds
  | _, _ => False
@[simp] def fLstOf (fa : FO) : FE := fun ρ Q => fa ρ fun x ρ1 => ∃ t, resT ρ1 x = some t ∧ lstT t fun ds => Q (.own (ds.map SV.dat)) ρ1
theorem lstT_of {K : PySem.W.Frag} {G H : Hp} {v : V} {t : SV} {f : List Addr} {P : List DD → Prop} (o : OT K G H v t f) (sub : Sub G H) (h : lstT t P) : ∃ a ys ds, v = .ref a ∧ (SqL K H a ys ∨ SqT K H a ys) ∧ RqA K G ys ds ∧ P ds := by
  unfold lstT at h
  split at h
  · obtain ⟨a, xs, ev, h1, r⟩ := o.dat_inv.1.lst_inv
    exact ⟨a, xs, _, ev, .inl (.inl (sub.rd h1)), r, h⟩
  · obtain ⟨a, xs, ev, h1, r⟩ := o.dat_inv.1.tup_inv
    exact ⟨a, xs, _, ev, .inr (sub.t h1), r, h⟩
  · obtain ⟨ds, rfl, q⟩ := h
    obtain ⟨a, vs, f', ev, ef, h1, _, os, _⟩ := o.own_inv
    exact ⟨a, vs, ds, ev, .inl (.inl (.inl h1)), os.dats.1, q⟩
  · exact h.elim
theorem e_list (hm : X.mg "list" = none) (ha : PDo X io a fa) (hg : Gl X "list" := by rfl) (he : starEach [a] X.env = (false, eval a X.env) :: starEach [] X.env := by rfl) (hpl : (backTo pos (starEach [] X.env)).any (·.1) = false := by rfl) : PDe X io (.Call (.Name "list" p) [a] [] pos) (fLstOf fa) := by
  obtain ⟨ta, a1, a2⟩ := ha
  refine ⟨_, pe_callTy call_list_of hg hm (by decide +kernel) (pa_cons a1 pa_nil he) (by decide) (by decide) he hpl, fun B G H σ ρ fp Qd Q hB R hf k => ?_⟩
  refine a2 B G H σ ρ fp _ _ hB R hf fun x ρ1 v1 G1 H1 fp1 n1 o1 ⟨t, e1, q⟩ => ?_
  obtain ⟨f, ot, hin⟩ := o1.tree n1.rp e1
  obtain ⟨p, ys, ds, ev, h, r, q⟩ := lstT_of ot n1.rp.co.sub q
  exact ⟨p, ys, by rw [ev], h, new_own R n1 r.ots (fun _ z => nomatch z) (fun _ z => nomatch z) fun v G'' H'' fp'' fr' n' ot' u1 u2 => k _ _ _ _ _ _ _ n' ot' u1 u2 q⟩
@[simp] def fTupOf (fe : FE) : FV := fun ρ Q => fe ρ fun t ρ1 => ∃ ds, (t.data = .lst ds ∨ t.data = .tup ds) ∧ Q (.tup ds) ρ1
theorem v_tuple {fe : FE} (hm : X.mg "tuple" = none) (ha : PDe X io a fe) (hg : Gl X "tuple" := by rfl) (he : starEach [a] X.env = (false, eval a X.env) :: starEach [] X.env := by rfl) (hpl : (backTo pos (starEach [] X.env)).any (·.1) = false := by rfl) : PDv X io (.Call (.Name "tuple" p) [a] [] pos) (fTupOf fe) := by
  obtain ⟨ta, a1, a2⟩ := ha
  refine ⟨_, pe_callTy call_tuple_of hg hm (by decide +kernel) (pa_cons a1 pa_nil he) (by decide) (by decide) he hpl, fun B G H σ ρ fp Qd Q hB R hf k => ?_⟩
  refine a2 B G H σ ρ fp _ _ hB R hf fun t ρ1 v1 G1 H1 fp1 fr n1 ot t1 t2 ⟨ds, e1, q⟩ => ?_
  obtain ⟨n2, r⟩ := Nxt.sealed R n1 ot t1 t2
  rcases e1 with e1 | e1
  · rw [e1] at r
    obtain ⟨p, xs, ev, h, rs⟩ := r.lst_inv
    refine ⟨p, xs, by rw [ev], .inl ⟨.inl (n2.rp.co.sub.rd h), fun l hl => ?_⟩⟩
    have n3 := n2.trans (Nxt.stand n2.rp (o := .tup xs) hl)
    refine k _ _ _ _ _ _ n3 (.tup (.inl (.inl upd_same)) (rs.mono fun a o e => ?_)) q
    have ne : a ≠ l := fun z => by
      have := n2.rp.co.sub _ _ e
      rw [z, hl] at this; cases this
    rw [upd_ne ne]; exact e
  · rw [e1] at r
    obtain ⟨p, xs, ev, h, rs⟩ := r.tup_inv
    exact ⟨p, xs, by rw [ev], .inr ⟨n2.rp.co.sub.t h, k _ _ _ _ _ _ n2 (.tup h rs) q⟩⟩
/-! changes in place -/
theorem In_fp {fp : Nat → List Addr} {i : Nat} {a : Addr} (m : a ∈ fp i) : In fp a := ⟨i, m⟩
/-- the list that slot i holds is rewritten -/
theorem Nxt.rewrite {K : PySem.W.Frag} {B : Bs} {σ : L2.St} {G H G' H' : Hp} {ρ ρ' : Rho} {fp fp' : Nat → List Addr} {i : Nat} {a : Addr} {f f' : List Addr} {ts' : List SV} {vs' : List V} {t0 : SV} (R : Rp K B G H σ ρ fp) (n : Nxt K B σ G H fp G' H' ρ' fp')
    (hi : ρ'[i]? = some (some t0)) (hs : σ[i]? = some (some (.ref a))) (hf : fp' i = a :: f) (ha : ∃ o, H' a = some o) (ga : G' a = none) (os : OTs K G' H' vs' ts' f') (na : a ∉ f') (hf' : ∀ x ∈ f', x ∈ f ∨ (¬ In fp' x ∧ (H x = none ∨ In fp x))) :
    Nxt K B σ G H fp G' (upd H' a (.lst vs')) (ρ'.set i (some (.own ts'))) (fun j => if j = i then a :: f' else fp' j) := by
  have il : i < ρ'.length := (List.getElem?_eq_some_iff.mp hi).1
  have ain : In fp' a := ⟨i, by rw [hf]; exact List.mem_cons_self⟩
  have ne : ∀ {j x}, j ≠ i → x ∈ fp' j → x ≠ a := fun {j x} nj m e => by
    subst e
    exact nj (n.rp.co.dis j i x m (by rw [hf]; exact List.mem_cons_self))
  have hin : ∀ x, In (fun j => if j = i then a :: f' else fp' j) x → In fp' x ∨ (H x = none ∨ In fp x) := fun x ⟨j, m⟩ => by
    by_cases e : j = i
    · simp only [if_pos e] at m
      rcases List.mem_cons.mp m with z | m
      · exact .inl (z ▸ ain)
      · rcases hf' x m with z | ⟨_, z⟩
        · exact .inl ⟨i, by rw [hf]; exact List.mem_cons_of_mem _ z⟩
        · exact .inr z
    · simp only [if_neg e] at m
      exact .inl ⟨j, m⟩
  have base : ∀ x, In fp' x → In B.fp0 x ∨ B.H0 x = none := n.rp.own
  refine ⟨⟨⟨by rw [List.length_set]; exact n.rp.co.len, fun x u e => ?_, fun j t h => ?_, fun j h => ?_, fun j l x m1 m2 => ?_⟩, ⟨n.rp.stp.ex, fun x u h e => ?_, n.rp.stp.hid⟩, fun x h => ?_, fun j m => ?_, n.rp.lo⟩, ⟨n.st.ex, fun x u h e => ?_, n.st.hid⟩, fun x h => ?_⟩
  · have : x ≠ a := fun z => by rw [z, ga] at e; cases e
    rw [upd_ne this]; exact n.rp.co.sub x u e
  · by_cases e : j = i
    · subst e
      rw [List.getElem?_set_self il] at h
      injection h with h; injection h with h
      subst h
      refine ⟨_, hs, ?_⟩
      simp only [if_true]
      exact .own upd_same ga (os.mono (Sub.refl _) (fun x m u e => by rw [upd_ne (fun z : x = a => na (z ▸ m))]; exact e) fun x m => (os.here x m).2) na
    · rw [List.getElem?_set_ne (Ne.symm e)] at h
      obtain ⟨v, e1, ot⟩ := n.rp.co.slot j t h
      refine ⟨v, e1, ?_⟩
      simp only [if_neg e]
      exact ot.mono (Sub.refl _) (fun x m u e2 => by rw [upd_ne (ne e m)]; exact e2) fun x m => (ot.here x m).2
  · by_cases e : j = i
    · subst e; exact absurd (List.getElem?_set_self il) (h _)
    · simp only [if_neg e]
      exact n.rp.co.nil j fun t q => h t (by rw [List.getElem?_set_ne (Ne.symm e)]; exact q)
  · have key : ∀ {j l}, j = i → l ≠ i → x ∈ a :: f' → x ∈ fp' l → False := fun {j l} e1 e2 m1 m2 => by
      rcases List.mem_cons.mp m1 with z | m1
      · exact ne e2 m2 z
      · rcases hf' x m1 with z | ⟨z, _⟩
        · exact e2 (n.rp.co.dis l i x m2 (by rw [hf]; exact List.mem_cons_of_mem _ z))
        · exact z ⟨l, m2⟩
    by_cases e1 : j = i
    · by_cases e2 : l = i
      · rw [e1, e2]
      · simp only [if_pos e1] at m1
        simp only [if_neg e2] at m2
        exact (key e1 e2 m1 m2).elim
    · by_cases e2 : l = i
      · simp only [if_neg e1] at m1
        simp only [if_pos e2] at m2
        exact (key e2 e1 m2 m1).elim
      · simp only [if_neg e1] at m1
        simp only [if_neg e2] at m2
        exact n.rp.co.dis j l x m1 m2
  · have : x ≠ a := fun z => by
      subst z
      rcases base x ain with y | y
      · exact h y
      · rw [e] at y; cases y
    rw [upd_ne this]; exact n.rp.stp.keep x u h e
  · rcases hin x h with z | z
    · exact base x z
    · exact R.base (fr := [x]) (fun y m => by have : y = x := by simpa using m
                                              subst this; exact z) x List.mem_cons_self
  · obtain ⟨w, t, e1, e2, e3⟩ := n.rp.io j m
    by_cases e : j = i
    · subst e; exact ⟨w, _, e1, e2, List.getElem?_set_self il⟩
    · exact ⟨w, t, e1, e2, by rw [List.getElem?_set_ne (Ne.symm e)]; exact e3⟩
  · have : x ≠ a := fun z => by
      subst z
      rcases n.inn x ain with y | y
      · exact h y
      · rw [e] at y; cases y
    rw [upd_ne this]; exact n.st.keep x u h e
  · rcases hin x h with z | z
    · exact n.inn x z
    · exact z.symm
/-- the list in slot i, as it stands -/
theorem Rp.ownAt {K : PySem.W.Frag} {B : Bs} {σ : L2.St} {G H : Hp} {ρ : Rho} {fp : Nat → List Addr} (R : Rp K B G H σ ρ fp) {i : Nat} {ts : List SV} (h : ρ[i]? = some (some (.own ts))) : ∃ a vs f, σ[i]? = some (some (.ref a)) ∧ fp i = a :: f ∧ H a = some (.lst vs) ∧ G a = none ∧ OTs K G H vs ts f ∧ a ∉ f := by
  obtain ⟨v, e1, ot⟩ := R.co.slot i _ h
  obtain ⟨a, vs, f, ev, ef, h1, h2, os, n⟩ := ot.own_inv
  subst ev
  exact ⟨a, vs, f, e1, ef, h1, h2, os, n⟩
@[simp] def fApp (i : Nat) (fe : FE) : FE := fun ρ Q => (∃ ts0, ρ[i]? = some (some (.own ts0))) ∧ fe ρ fun r ρ1 => ∃ ts, ρ1[i]? = some (some (.own ts)) ∧ ts.length < sizeLine ∧ Q (.dat .non) (ρ1.set i (some (.own (ts ++ [r]))))
theorem e_app {te : TE} {fe : FE} {o : Expr} {apos : Pos} (i : Nat) (ho : PE X o te) (ht : te = tVar i) (h : PDe X io e fe) (hs : starEach (e :: []) X.env = (false, eval e X.env) :: starEach [] X.env := by rfl)
    (hbm : ∀ t, PA X [e] t → PE X (.Call (.Attribute o "append" apos) [e] [] pos) (tBM X.K "list" rAppend (tVar i) t)) : PDe X io (.Call (.Attribute o "append" apos) [e] [] pos) (fApp i fe) := by
  subst ht
  obtain ⟨ta, a1, a2⟩ := h
  refine ⟨_, hbm _ (pa_cons a1 pa_nil hs), fun B G H σ ρ fp Qd Q hB R hf k => ?_⟩
  obtain ⟨⟨ts0, e0⟩, hf⟩ := hf
  obtain ⟨l, vs0, f0, s0, _, h0, _, _, _⟩ := R.ownAt e0
  refine ⟨.ref l, s0, .inl ⟨rfl, _, .inl (.inl h0)⟩, ?_⟩
  refine a2 B G H σ ρ fp _ _ hB R hf fun r ρ1 v G1 H1 fp1 fr n1 ot t1 t2 ⟨ts, e1, hz, q⟩ => ?_
  obtain ⟨l', vs, f, s1, ef, h1, g1, os, nl⟩ := n1.rp.ownAt e1
  have : l = l' := by rw [s0] at s1; injection s1 with z; injection z with z; injection z
  subst this
  have nfr : ∀ x ∈ fr, x ∉ l :: f := fun x m m' => t1 x m ⟨i, by rw [ef]; exact m'⟩
  have n2 := Nxt.rewrite (i := i) (a := l) R n1 e1 s1 ef ⟨_, h1⟩ g1 (os.snoc ot fun x m m' => nfr x m' (List.mem_cons_of_mem _ m)) (fun m => (List.mem_append.mp m).elim nl fun m => nfr l m List.mem_cons_self)
    (fun x m => (List.mem_append.mp m).elim .inl fun m => .inr ⟨t1 x m, t2 x m⟩)
  exact ⟨l, vs, v, rfl, rfl, h1, by rw [os.length]; exact hz, k _ _ _ _ _ _ [] n2 (.dat .non) (fun _ z => nomatch z) (fun _ z => nomatch z) q⟩
@[simp] def fPop (i : Nat) : FE := fun ρ Q => ∃ ts t, ρ[i]? = some (some (.own ts)) ∧ ts[ts.length - 1]? = some t ∧ Q t (ρ.set i (some (.own ts.dropLast)))
theorem OTs.unsnoc {K : PySem.W.Frag} {G H : Hp} : ∀ {ts : List SV} {t : SV} {vs : List V} {f : List Addr}, OTs K G H vs (ts ++ [t]) f → ∃ ws w f1 f2, vs = ws ++ [w] ∧ OTs K G H ws ts f1 ∧ OT K G H w t f2 ∧ (∀ a ∈ f1, a ∉ f2) ∧ (∀ a ∈ f1, a ∈ f) ∧ ∀ a ∈ f2, a ∈ f
  | [], t, vs, f, h => by
    cases h with
    | cons a b d =>
      cases b
      exact ⟨[], _, [], _, rfl, .nil, a, by simp, by simp, fun x m => List.mem_append_left _ m⟩
  | u :: ts, t, vs, f, h => by
    rw [List.cons_append] at h
    cases h with
    | cons a b d =>
      obtain ⟨ws, w, f1, f2, rfl, o1, o2, d12, i1, i2⟩ := OTs.unsnoc b
      refine ⟨_ :: ws, w, _, f2, rfl, .cons a o1 fun x m m' => d x m (i1 x m'), o2, fun x m m' => ?_, fun x m => ?_, fun x m => List.mem_append_right _ (i2 x m)⟩
      · rcases List.mem_append.mp m with m | m
        · exact d x m (i2 x m')
        · exact d12 x m m'
      · rcases List.mem_append.mp m with m | m
        · exact List.mem_append_left _ m
        · exact List.mem_append_right _ (i1 x m)
theorem last_split {α : Type} {l : List α} {t : α} (h : l[l.length - 1]? = some t) : l = l.dropLast ++ [t] := by
  cases l with
  | nil => simp at h
  | cons a r =>
    have ne : a :: r ≠ [] := List.cons_ne_nil _ _
    have : (a :: r).getLast ne = t := by
      have := List.getLast?_eq_getElem? (l := a :: r)
      rw [h] at this
      rw [List.getLast?_eq_some_getLast ne] at this
      injection this
    rw [← this]
    exact (List.dropLast_concat_getLast ne).symm
theorem e_pop {te : TE} {o : Expr} {apos : Pos} (i : Nat) (ho : PE X o te) (ht : te = tVar i) (hbm : PE X (.Call (.Attribute o "pop" apos) [] [] pos) (tBM0 X.K "list" rPop (tVar i))) : PDe X io (.Call (.Attribute o "pop" apos) [] [] pos) (fPop i) := by
  subst ht
  refine ⟨_, hbm, fun B G H σ ρ fp Qd Q hB R hf k => ?_⟩
  obtain ⟨ts, t, e0, el, q⟩ := hf
  obtain ⟨l, vs, f, s0, ef, h0, g0, os, nl⟩ := R.ownAt e0
  have sp := last_split el
  rw [sp] at os
  obtain ⟨ws, w, f1, f2, ev, o1, o2, d12, i1, i2⟩ := os.unsnoc
  subst ev
  refine ⟨.ref l, s0, .inl ⟨rfl, _, .inl (.inl h0)⟩, l, _, w, rfl, rfl, h0, by simp, ?_⟩
  have e3 : (ws ++ [w]).dropLast = ws := by simp
  rw [e3]
  have n2 := Nxt.rewrite (i := i) (a := l) R (Nxt.refl R) e0 s0 ef ⟨_, h0⟩ g0 o1 (fun m => nl (i1 l m)) (fun x m => .inl (i1 x m))
  have ne : ∀ x ∈ f2, x ≠ l := fun x m z => nl (z ▸ i2 x m)
  refine k t _ w _ _ _ f2 n2 (o2.mono (Sub.refl _) (fun x m u e => by rw [upd_ne (ne x m)]; exact e) fun x m => (o2.here x m).2) (fun x m ⟨j, z⟩ => ?_) (fun x m => .inr ⟨i, by rw [ef]; exact List.mem_cons_of_mem _ (i2 x m)⟩) q
  by_cases e : j = i
  · simp only [if_pos e] at z
    rcases List.mem_cons.mp z with z | z
    · exact ne x m z
    · exact d12 x z m
  · simp only [if_neg e] at z
    exact e (R.co.dis j i x z (by rw [ef]; exact List.mem_cons_of_mem _ (i2 x m)))
theorem OTs.setD {K : PySem.W.Frag} {G H : Hp} {v : V} {d : DD} (r : Rq K G v d) : ∀ {vs : List V} {ts : List SV} {f : List Addr} (j : Nat), OTs K G H vs ts f → ∃ f', OTs K G H (vs.set j v) (ts.set j (.dat d)) f' ∧ ∀ x ∈ f', x ∈ f
  | _, _, _, _, .nil => ⟨[], .nil, fun _ z => z⟩
  | _, _, _, 0, .cons a b dd => ⟨_, OTs.cons (.dat r) b (fun _ z => nomatch z), fun x m => List.mem_append_right _ (by simpa using m)⟩
  | _, _, _, j + 1, .cons a b dd => by
    obtain ⟨f', o, i⟩ := OTs.setD r j b
    exact ⟨_, OTs.cons a o fun x m m' => dd x m (i x m'), fun x m => (List.mem_append.mp m).elim (List.mem_append_left _) fun m => List.mem_append_right _ (i x m)⟩
/-- xs[k] = e, xs the list that slot s holds -/
@[simp] def fSetIt (s : Nat) (fv : FV) (fo : FO) : FS := fun D ρ => fv ρ fun d ρ1 => (∃ t, ρ1[s]? = some (some t)) ∧ fo ρ1 fun x ρ2 => ∃ k ts j, resD ρ2 x = some (.int k) ∧ ρ2[s]? = some (some (.own ts)) ∧ ixN ts.length k = some j ∧ D.nx (ρ2.set s (some (.own (ts.set j (.dat d)))))
theorem s_setit {te : TE} {fv : FV} {fo : FO} {o : Expr} {p2 : Pos} (s : Nat) (ho : PE X o te) (ht : te = tVar s) (hv : PDv X io e fv) (hi : PDo X io b fo)
    (ha : ∀ v, assign (.Subscript o b p2) X.env v = (do
      let ov ← holding [v] (eval o X.env)
      let iv ← holding [v, ov] (eval b X.env)
      standAt p2
      holding [v, ov, iv] (setItem ov iv v)
      release [v, ov, iv] []) := by intro _; rfl)
    (hs : swapsWithSole [.Subscript o b p2] e pos.line X.env = pure false := by rfl) (hw : swappedStores [.Subscript o b p2] e X.env = pure none := by rfl)
    (h1 : (assignEach [.Subscript o b p2] X.env).map (·.2) = [assign (.Subscript o b p2) X.env] := by rfl) : PDs X io (.Assign [.Subscript o b p2] e pos) (fSetIt s fv fo) := by
  subst ht
  obtain ⟨_, v1, v2⟩ := hv
  obtain ⟨_, i1, i2⟩ := hi
  refine ⟨_, ps_asg v1 (pg_sub ho i1 set_list ha) hs hw h1, fun B G H σ ρ fp Dd Dh hB R hf sm => ?_⟩
  refine v2 B G H σ ρ fp _ _ hB R hf fun d ρ1 v G1 H1 fp1 n1 r ⟨⟨t0, e0⟩, hf⟩ => ?_
  obtain ⟨z, ez, _⟩ := n1.rp.co.slot s t0 e0
  refine ⟨z, ez, ?_⟩
  refine i2 B G1 H1 σ ρ1 fp1 _ _ hB n1.rp hf fun x ρ2 u G2 H2 fp2 n2 o2 ⟨k, ts, j, ek, es, ej, q⟩ => ?_
  obtain ⟨l, vs, f, s0, ef, h0, g0, os, nl⟩ := n2.rp.ownAt es
  have : z = .ref l := by rw [ez] at s0; injection s0 with y; injection y
  subst this
  obtain ⟨f', o', i'⟩ := os.setD (r.mono n2.st.ex) j
  have n3 := Nxt.rewrite (i := s) (a := l) n1.rp n2 es s0 ef ⟨_, h0⟩ g0 o' (fun m => nl (i' l m)) (fun x m => .inl (i' x m))
  exact ⟨l, vs, k, j, rfl, (o2.rqH n2.rp ek).int_inv, h0, by rw [os.length]; exact ej, sm.nx _ _ _ _ _ n3.rp q⟩
/-- xs[k] op= e -/
theorem get_listV : PGet X (rIxL X.K) := by
  intro pins s σ H x y v u Q I rx ry h
  obtain ⟨p, xs, i, z, rfl, rfl, hq, he, q⟩ := h
  cases rx
  obtain ⟨t, rfl⟩ := ry
  obtain ⟨its, r, pl, hz⟩ := I.list hq
  obtain ⟨j, h1, h2, h3, h4, h5⟩ := atI_get he
  obtain ⟨w, ew, rw'⟩ := r.get h2
  have hl := r.length
  have hn := line63
  have fin : EP X pins σ Q w s := ⟨z, H, I, rw', q⟩
  by_cases h0 : 0 ≤ i
  · have hj : i.toNat = j := by
      rw [seqIndex_of h0 h5] at h1
      exact Option.some.inj h1
    exact wpAny_getItem_list (x := w) pl.isList h0 (by omega) (by rw [hj]; simpa using ew) fin
  · have hj : (i + (its.toArray.size : Int)).toNat = j := by
      rw [seqIndex_neg (by omega) h4] at h1
      rw [List.size_toArray, ← hl]
      exact Option.some.inj h1
    exact wpAny_getItem_list_neg (x := w) pl.isList (by omega) (by rw [List.size_toArray] <;> omega) (by omega) (by rw [hj]; simpa using ew) fin
@[simp] def fAugIt (s : Nat) (fo : FO) (fv : FV) (op : Int → Int → Int) : FS := fun D ρ => (∃ t, ρ[s]? = some (some t)) ∧ fo ρ fun x ρ1 => ∃ (k n : Int) (ts1 : List SV), resD ρ1 x = some (.int k) ∧ ρ1[s]? = some (some (.own ts1)) ∧ atI ts1 k = some (.dat (.int n)) ∧
  fv ρ1 fun d ρ2 => ∃ (m : Int) (ts : List SV) (j : Nat), d = .int m ∧ ρ2[s]? = some (some (.own ts)) ∧ ixN ts.length k = some j ∧ D.nx (ρ2.set s (some (.own (ts.set j (.dat (.int (op n m)))))))
theorem s_augit {te : TE} {fv : FV} {fo : FO} {o : Expr} {p2 : Pos} {op : Operator} {g : Int → Int → Int} (hp : PIp X op (ipI g)) (s : Nat) (ho : PE X o te) (ht : te = tVar s) (hi : PDo X io b fo) (hv : PDv X io e fv)
    (ha : ∀ ov iv new, augStore b ov iv new = (do holding [new, ov, iv] (setItem ov iv new); release [new, ov, iv] []; pure .next) := by intros; rfl) : PDs X io (.AugAssign (.Subscript o b p2) op e pos) (fAugIt s fo fv g) := by
  subst ht
  obtain ⟨_, v1, v2⟩ := hv
  obtain ⟨_, i1, i2⟩ := hi
  refine ⟨_, ps_augS ho i1 get_listV v1 hp set_list ha, fun B G H σ ρ fp Dd Dh hB R hf sm => ?_⟩
  obtain ⟨⟨t0, e0⟩, hf⟩ := hf
  obtain ⟨z, ez, _⟩ := R.co.slot s t0 e0
  refine ⟨z, ez, ?_⟩
  refine i2 B G H σ ρ fp _ _ hB R hf fun x ρ1 u G1 H1 fp1 n1 o1 ⟨k, n, ts1, ek, es1, ea, hf⟩ => ?_
  obtain ⟨l, vs1, f1, s1, _, h1, _, os1, _⟩ := n1.rp.ownAt es1
  have : z = .ref l := by rw [ez] at s1; injection s1 with y; injection y
  subst this
  obtain ⟨w, fw, ew, ow, _⟩ := atI_ots os1 ea
  have hk := (o1.rqH n1.rp ek).int_inv
  refine ⟨l, vs1, k, w, rfl, hk, .inl (.inl h1), ew, ?_⟩
  refine v2 B G1 H1 σ ρ1 fp1 _ _ hB n1.rp hf fun d ρ2 v G2 H2 fp2 n2 r ⟨m, ts, j, ed, es, ej, q⟩ => ?_
  subst ed
  obtain ⟨l', vs, f, s0, ef, h0, g0, os, nl⟩ := n2.rp.ownAt es
  have : l = l' := by rw [s1] at s0; injection s0 with y; injection y with y; injection y
  subst this
  obtain ⟨f', o', i'⟩ := os.setD (v := .int (g n m)) (d := .int (g n m)) (.int _) j
  have n3 := Nxt.rewrite (i := s) (a := l) n1.rp n2 es s0 ef ⟨_, h0⟩ g0 o' (fun m => nl (i' l m)) (fun x m => .inl (i' x m))
  exact ⟨n, m, ow.dat_inv.1.int_inv, r.int_inv, l, vs, k, j, rfl, hk, h0, by rw [os.length]; exact ej, sm.nx _ _ _ _ _ n3.rp q⟩
end
end DL

namespace DL
open PySem PySem.Spec PyProof.Rows L2
/-! ### a def's body -/
def outsG (io : List Nat) (ρ : Rho) : Nat → List SV → List SV
  | _, [] => []
  | k, t :: r => (if k ∈ io then (ρ[k]?.join).getD t else t) :: outsG io ρ (k + 1) r
def outs (io : List Nat) (as : List SV) (ρ : Rho) : List SV := if io = [] then as else outsG io ρ 0 as
theorem outsG_len (io : List Nat) (ρ : Rho) : ∀ (k : Nat) (as : List SV), (outsG io ρ k as).length = as.length
  | _, [] => rfl
  | k, _ :: r => congrArg (· + 1) (outsG_len io ρ (k + 1) r)
theorem outsG_get {io : List Nat} {ρ : Rho} : ∀ {as : List SV} {k i : Nat} {t : SV}, as[i]? = some t → (outsG io ρ k as)[i]? = some (if k + i ∈ io then (ρ[k + i]?.join).getD t else t)
  | [], _, _, _, h => by simp at h
  | a :: r, k, 0, t, h => by simp at h; subst h; simp [outsG]
  | a :: r, k, i + 1, t, h => by
    have := outsG_get (io := io) (ρ := ρ) (as := r) (k := k + 1) (i := i) (t := t) (by simpa using h)
    rw [outsG]
    simp only [List.getElem?_cons_succ]
    rw [this]
    have e : k + 1 + i = k + (i + 1) := by omega
    rw [e]
theorem outs_len (io : List Nat) (as : List SV) (ρ : Rho) : (outs io as ρ).length = as.length := by
  unfold outs
  split
  · rfl
  · exact outsG_len io ρ 0 as
theorem outs_get {io : List Nat} {as : List SV} {ρ : Rho} {i : Nat} {t : SV} (h : as[i]? = some t) : (outs io as ρ)[i]? = some (if i ∈ io then (ρ[i]?.join).getD t else t) := by
  unfold outs
  split
  · rename_i e
    rw [h, e]; simp
  · have := outsG_get (io := io) (ρ := ρ) (k := 0) h
    simpa using this
theorem Co.pad {K : PySem.W.Frag} {G H : Hp} {vs : List V} {as : List SV} {fp : Nat → List Addr} (c : Co K G H (vs.map some) (as.map some) fp) (n : Nat) : Co K G H (vs.map some ++ List.replicate n none) (as.map some ++ List.replicate n none) fp := by
  have hl := c.len
  simp at hl
  have key : ∀ (i : Nat) t, (as.map some ++ List.replicate n none)[i]? = some (some t) ↔ (as.map some)[i]? = some (some t) := fun i t => by
    by_cases h : i < as.length
    · rw [List.getElem?_append_left (by simpa using h)]
    · rw [List.getElem?_append_right (by simpa using h), List.getElem?_replicate]
      constructor
      · intro e
        split at e <;> cases e
      · intro e
        rw [List.getElem?_eq_none (by simpa using h)] at e; cases e
  refine ⟨by simp [hl], c.sub, fun i t h => ?_, fun i h => c.nil i fun t e => h t ((key i t).mpr e), c.dis⟩
  have h' := (key i t).mp h
  obtain ⟨v, e, o⟩ := c.slot i t h'
  have : i < vs.length := by
    have := (List.getElem?_eq_some_iff.mp e).1
    simpa using this
  exact ⟨v, by rw [List.getElem?_append_left (by simpa using this)]; exact e, o⟩
theorem outs_co {K : PySem.W.Frag} {B : Bs} {σ : L2.St} {G H : Hp} {ρ : Rho} {fp : Nat → List Addr} (R : Rp K B G H σ ρ fp) (c0 : Co K B.G0 B.H0 (B.vs.map some) (B.as.map some) B.fp0)
    (hio : ∀ (i : Nat) t, B.as[i]? = some t → i ∈ B.io ∨ ∃ d, t = .dat d) (hil : ∀ i ∈ B.io, i < B.as.length) : Co K G H (B.vs.map some) ((outs B.io B.as ρ).map some) (fun i => if i ∈ B.io then fp i else []) := by
  have hl := c0.len
  simp at hl
  have at' : ∀ (i : Nat) t, ((outs B.io B.as ρ).map some)[i]? = some (some t) → ∃ u, B.as[i]? = some u ∧ t = if i ∈ B.io then (ρ[i]?.join).getD u else u := fun i t h => by
    rw [List.getElem?_map] at h
    cases q : (outs B.io B.as ρ)[i]? with
    | none => rw [q] at h; cases h
    | some z =>
      rw [q] at h
      simp at h
      subst h
      have li : i < B.as.length := by
        have := (List.getElem?_eq_some_iff.mp q).1
        rwa [outs_len] at this
      refine ⟨B.as[i], List.getElem?_eq_getElem li, ?_⟩
      have := outs_get (io := B.io) (ρ := ρ) (List.getElem?_eq_getElem li)
      rw [q] at this
      exact Option.some.inj this
  refine ⟨by simp [outs_len, hl], R.co.sub, fun i t h => ?_, fun i h => ?_, fun i j a m1 m2 => ?_⟩
  · obtain ⟨u, eu, et⟩ := at' i t h
    by_cases m : i ∈ B.io
    · obtain ⟨v, z, e1, e2, e3⟩ := R.io i m
      rw [if_pos m, e3] at et
      simp at et
      subst et
      obtain ⟨w, e4, o⟩ := R.co.slot i _ e3
      rw [e2] at e4
      have : v = w := by injection e4 with y; injection y
      subst this
      refine ⟨v, by rw [List.getElem?_map, e1]; rfl, ?_⟩
      simp only [if_pos m]; exact o
    · rw [if_neg m] at et
      subst et
      rcases hio i t eu with z | ⟨d, rfl⟩
      · exact absurd z m
      · obtain ⟨v, e1, o⟩ := c0.slot i (.dat d) (by rw [List.getElem?_map, eu]; rfl)
        refine ⟨v, e1, ?_⟩
        simp only [if_neg m]
        exact .dat (o.dat_inv.1.mono R.stp.ex)
  · by_cases m : i ∈ B.io
    · have li := hil i m
      have := outs_get (io := B.io) (ρ := ρ) (List.getElem?_eq_getElem li)
      exact absurd (by rw [List.getElem?_map, this]; rfl) (h _)
    · exact if_neg m
  · by_cases e1 : i ∈ B.io
    · by_cases e2 : j ∈ B.io
      · simp only [if_pos e1] at m1
        simp only [if_pos e2] at m2
        exact R.co.dis i j a m1 m2
      · simp [e2] at m2
    · simp [e1] at m1
section
variable {P : Program} {w : World} {K : PySem.W.Frag} {mg : Str → Option Value} {base : Heap} {f : Addr} {fd : FuncData} {x qual : Str} {params : Arguments} {body : List Stmt} {scope : Scope} {N ps : List Str} {k : Nat}
theorem okG {F : Ctr} {io : List Nat} {fs : FS} (F0 : FunD K x qual params body scope [] [] f fd) (S : FnScope N ps scope)
    (hbody : ∀ (cdv : Value) (A : Around) (outer : List Env) (s : Shared) (H : Hp) (E : XK), RoomG k (A.deeper (envOfC qual scope s.heap.objs.size f cdv)) → PDss (cxOf CX0 P w K mg base N qual scope f cdv A outer s H E).nox io body fs)
    (hlen : ∀ as Q, F as Q → as.length = ps.length) (hio : ∀ as Q, F as Q → ∀ (i : Nat) t, as[i]? = some t → i ∈ io ∨ ∃ d, t = .dat d) (hil : ∀ i ∈ io, i < ps.length)
    (hF : ∀ as Q, F as Q → fs ⟨fun ρ => Q (.dat .non) (outs io as ρ), fun r ρ => Q r (outs io as ρ), fun _ => False, fun _ => False⟩ (as.map some ++ List.replicate (N.length - ps.length) none)) :
    FnG P w K mg base CX0 (k + 1) f fd ps (spD K F) := by
  obtain ⟨oc, od, dV, kV, doc, pm, an, cdv, ct, osl, rfl, lk, hcd, _, _⟩ := F0.ex
  have hlen' : ∀ vs H Q E, spD K F vs H Q E → vs.length = ps.length := fun vs H Q E ⟨G, as, fp, Qd, c, hF', _⟩ => by
    have := c.len
    simp at this
    rw [this]; exact hlen as Qd hF'
  refine fn_ofG lk hcd S hlen' fun A outer s H vs Q E hr ⟨G, as, fp, Qd, c, hF', kk⟩ => ?_
  obtain ⟨t, h1, h2⟩ := hbody cdv A outer s H E hr
  refine ⟨t, h1.nox, ?_⟩
  have ea := hlen as Qd hF'
  have ev : vs.length = as.length := by have := c.len; simp at this; exact this
  let B : Bs := ⟨vs, as, io, G, H, fp, fun _ => none⟩
  have R0 : Rp K B G H (L2.start N vs) (as.map some ++ List.replicate (N.length - ps.length) none) fp := by
    refine ⟨?_, Stp.refl G H, fun a h => .inl h, fun i m => ?_, fun a o h => (nomatch h)⟩
    · unfold L2.start
      rw [ev, ea]
      exact c.pad _
    · have li : i < as.length := by rw [ea]; exact hil i m
      have lv : i < vs.length := by rw [ev]; exact li
      exact ⟨vs[i], as[i], List.getElem?_eq_getElem lv, by unfold L2.start; rw [List.getElem?_append_left (by simpa using lv)]; simp [lv], by rw [List.getElem?_append_left (by simpa using li)]; simp [li]⟩
  have hio' : ∀ (i : Nat) t, B.as[i]? = some t → i ∈ B.io ∨ ∃ d, t = .dat d := hio as Qd hF'
  have hil' : ∀ i ∈ B.io, i < B.as.length := fun i m => by rw [show B.as.length = ps.length from ea]; exact hil i m
  have key : ∀ G' H' σ ρ fp' r v fr, Rp K B G' H' σ ρ fp' → OT K G' H' v r fr → (∀ a ∈ fr, ¬ In fp' a) → (∀ a ∈ fr, In B.fp0 a ∨ B.H0 a = none) → Qd r (outs io as ρ) → Q v H' := fun G' H' σ ρ fp' r v fr R ot t1 t2 q => by
    have sub : ∀ a, In (fun i => if i ∈ io then fp' i else []) a → In fp' a := fun a ⟨j, m⟩ => by
      by_cases e : j ∈ io
      · simp only [if_pos e] at m; exact ⟨j, m⟩
      · simp [e] at m
    exact kk r (outs io as ρ) v G' H' _ fr (outs_co R c hio' hil') R.stp (fun a h => R.own a (sub a h)) ot (fun a m h => t1 a m (sub a h)) (fun a m => (t2 a m).symm) q
  exact h2 B G H _ _ fp _ _ rfl R0 (hF as Qd hF') ⟨fun G' H' σ ρ fp' R q => key G' H' σ ρ fp' _ _ [] R (.dat .non) (fun _ z => nomatch z) (fun _ z => nomatch z) q, fun G' H' σ ρ fp' r v fr R ot t1 t2 q => key G' H' σ ρ fp' r v fr R ot t1 t2 q, fun _ _ _ _ _ _ z => z, fun _ _ _ _ _ _ z => z⟩
end
/-! ### isinstance with a built-in class, or with two; repr -/
section
variable {X : Cx} {io : List Nat} {e a b : Expr} {pos p : Pos} {fos : FOs} {K : PySem.W.Frag}
theorem c_blt {x : Str} {v : V} {u : Value} (hm : X.mg x = none) (hv : bootBuiltins x = some u) (r : RelV v u) (hg : Gl X x := by rfl) (hn : x ≠ "__name__" := by decide) (hd : (x == ("__debug__" : Str)) = false := by decide) : PDv X io (.Name x pos) (fC (.opq v)) :=
  ⟨_, pe_bltn hg hm hv r hn hd, fun B G H σ ρ fp Qd Q hB R hf k => k _ ρ v G H fp (Nxt.refl R) (.opq v) hf⟩
def dTy : DD → Option String
  | .non => some "NoneType"
  | .bl _ => some "bool"
  | .int _ => some "int"
  | .str _ => some "str"
  | .lst _ => some "list"
  | .tup _ => some "tuple"
  | .at_ _ (.lst _) => some "list"
  | _ => none
theorem Rq.tyX {G : Hp} {x : V} {d : DD} {T : String} (h : Rq K G x d) (e : dTy d = some T) : TyX K G x (.type T) := by
  cases h with
  | non => have := Option.some.inj e; subst this; exact .base .non
  | bl b => have := Option.some.inj e; subst this; exact .base (.bl b)
  | int b => have := Option.some.inj e; subst this; exact .base (.int b)
  | str b => have := Option.some.inj e; subst this; exact .base (.str b)
  | opq => cases e
  | exc => cases e
  | lst h r =>
    have := Option.some.inj e
    subst this
    rcases h with h | ⟨o, h⟩
    · exact .base (.lst h)
    · exact .base (.frz h)
  | tup h r =>
    have := Option.some.inj e
    subst this
    rcases h with (h | ⟨o, h⟩) | ⟨o, its, n, h, hc, _⟩
    · exact .base (.tup h)
    · exact .fTuple h
    · exact .kTuple h hc
  | obj h r => cases e
  | klst => cases e
  | at_ h =>
    cases h with
    | lst h r =>
      have := Option.some.inj e
      subst this
      rcases h with h | ⟨o, h⟩
      · exact .base (.lst h)
      · exact .base (.frz h)
    | _ => cases e
theorem kit_all : ∀ T ∈ ["NoneType", "bool", "int", "str", "list", "tuple"], ∀ c ∈ ["list", "tuple", "str"], kitB T c = some (T == c) := by decide +kernel
theorem kit_of_ty {T c : String} (hT : T ∈ ["NoneType", "bool", "int", "str", "list", "tuple"]) (hc : c ∈ ["list", "tuple", "str"]) : kitB T c = some (T == c) := kit_all T hT c hc
theorem dTy_mem {d : DD} {T : String} (e : dTy d = some T) : T ∈ ["NoneType", "bool", "int", "str", "list", "tuple"] := by
  cases d <;> first | (have := Option.some.inj e; subst this; decide) | cases e | (rename_i d; cases d <;> first | (have := Option.some.inj e; subst this; decide) | cases e)
@[simp] def oIsi : OpN := fun ds P => (∃ d T c, ds = [d, .opq (.ty c)] ∧ dTy d = some T ∧ c ∈ ["list", "tuple", "str"] ∧ P (.bl (T == c))) ∨
  ∃ d T c1 c2, ds = [d, .tup [.opq (.ty c1), .opq (.ty c2)]] ∧ dTy d = some T ∧ c1 ∈ ["list", "tuple", "str"] ∧ c2 ∈ ["list", "tuple", "str"] ∧ P (.bl (T == c1 || T == c2))
def rIsiS (K : PySem.W.Frag) : List V → Hp → VK → Prop := fun xs H Q => ∃ (x : V) (tp : Addr) (cs : List V) (t : Value) (us : List Value) (b : Bool), xs = [x, .ref tp] ∧ SqT K H tp cs ∧ Paired ClsV cs us ∧ TyX K H x t ∧ PySem.W.kitAny K t us = some b ∧ Q (.bl b) H
theorem call_isiS : CallR X (.builtin "isinstance") (rIsiS X.K) := by
  intro pins s σ H xs us Q I r h
  obtain ⟨x, tp, cs, t, ws, b, rfl, hT, k, ty, e, q⟩ := h
  obtain ⟨u1, u2, rfl, r1, r2⟩ := vals2 r
  cases (show u2 = Value.ref tp from r2)
  obtain ⟨P, Z, p, hx⟩ := kit_of I r1 ty
  obtain ⟨its, rv, ⟨o, h1, h2, n, h3⟩, _⟩ := I.tuple hT
  have e3 := ClsV.all k rv
  subst e3
  obtain ⟨oc, od, dt, sl⟩ := o
  simp only at h2 h3
  subst h2 h3
  exact PySem.W.kia_tup Z I.kIn p h1 e hx fun tk => ⟨.bl b, H, I.tok tk, rfl, q⟩
theorem p_isi (hm : X.mg "isinstance" = none) (ha : PDos X io [a, b] fos) (hg : Gl X "isinstance" := by rfl) (he : starEach [a, b] X.env = (false, eval a X.env) :: starEach [b] X.env := by rfl) (hpl : (backTo pos (starEach [b] X.env)).any (·.1) = false := by rfl) : PDv X io (.Call (.Name "isinstance" p) [a, b] [] pos) (fCB oIsi fos) :=
  p_cb (r := fun xs H Q => rIsi X.K xs H Q ∨ rIsiS X.K xs H Q) (call_isi.or call_isiS) (fun H xs ds P Q hx h k => by
    rcases h with ⟨d, T, c, rfl, e, hc, q⟩ | ⟨d, T, c1, c2, rfl, e, h1, h2, q⟩
    · obtain ⟨x, y, rfl, r, s⟩ := hx.two
      have := s.opq_inv
      subst this
      exact .inl ⟨x, .ty c, _, _, _, rfl, .ty c, r.tyX e, kit_ty (kit_of_ty (dTy_mem e) hc), k _ _ q (.bl _)⟩
    · obtain ⟨x, y, rfl, r, s⟩ := hx.two
      obtain ⟨t, zs, rfl, ht, rs⟩ := s.tup_inv
      obtain ⟨z1, z2, rfl, r1, r2⟩ := rs.two
      have e1 := r1.opq_inv
      have e2 := r2.opq_inv
      subst e1 e2
      have kt : PySem.W.kitAny X.K (.type T) [.type c1, .type c2] = some (T == c1 || T == c2) := by
        refine kitAny_cons (kit_ty (kit_of_ty (dTy_mem e) h1)) (fun q1 => ?_) (fun q1 => by rw [q1]; rfl)
        refine kitAny_cons (kit_ty (kit_of_ty (dTy_mem e) h2)) (fun q2 => by rw [q1, q2]; exact kitAny_nil) (fun q2 => by rw [q2, Bool.or_true])
      exact .inr ⟨x, t, _, _, _, _, rfl, ht, .cons (.ty c1) (.cons (.ty c2) .nil), r.tyX e, kt, k _ _ q (.bl _)⟩) hm PyProof.Rows.boot_isinstance ha hg (by decide) (by decide) he hpl
mutual
theorem dp_nodict {H : Hp} : ∀ {x : V} {d : PyData}, Dp K H x d → d.hasDict = false
  | _, _, .non => by simp [PyData.hasDict]
  | _, _, .bl _ => by simp [PyData.hasDict]
  | _, _, .int _ => by simp [PyData.hasDict]
  | _, _, .str _ => by simp [PyData.hasDict]
  | _, _, .lst _ a => by simp only [PyData.hasDict]; exact dp_nodicts a
  | _, _, .tup _ a => by simp only [PyData.hasDict]; exact dp_nodicts a
theorem dp_nodicts {H : Hp} : ∀ {x : List V} {d : List PyData}, DpAll K H x d → PyData.hasDictAll d = false
  | _, _, .nil => by simp [PyData.hasDictAll]
  | _, _, .cons a b => by simp only [PyData.hasDictAll]; rw [dp_nodict a, dp_nodicts b]; rfl
end
/-! repr of ints of up to 12,900 bits, where no own limit of digits stands -/
/-- no own limit of digits is told -/
def LimK (K : PySem.W.Frag) : Prop := PySem.W.nsIn K cStatics "sys.int_max_str_digits" = some none
mutual
def shw : PyData → Bool
  | .none => true
  | .bool _ => true
  | .str _ => true
  | .int i => decide (i.natAbs.log2 < 12900)
  | .list l => shws l
  | .tuple l => shws l
  | .dict _ => false
def shws : List PyData → Bool
  | [] => true
  | x :: r => shw x && shws r
end
section
variable {prog : Program} {w : World} {A : Around} {E : Value → Shared → Prop} {s : Shared} {h₀ : Heap} {K : PySem.W.Frag}
theorem over_big {M : Model} {a : Int} {Q : Option Nat → Shared → Prop} (X : K.In s.heap) (l : LimK K) (h : a.natAbs.log2 < 12900) (q : Q none s) : wpAny M A (Builtin.overDigitLimit? a) Q E s := by
  by_cases h1 : a.natAbs.log2 < 1920
  · rw [PySem.overDigitLimit_small h1]; exact wpAny_pure q
  · unfold Builtin.overDigitLimit?
    rw [if_neg h1]
    refine wpAny_bind (m := Builtin.intMaxStrDigits) ?_
    unfold Builtin.intMaxStrDigits
    refine wpAny_bind ((PySem.W.looks_nsIn X l).here ?_)
    refine wpAny_pure ?_
    have e1 : ¬ (a.natAbs.log2 / 30 + 1 > 1000) := by omega
    have e2 : ((4300 : Nat) == 0 || decide (a.natAbs.log2 < 3 * 4300)) = true := by
      rw [decide_eq_true (by omega : a.natAbs.log2 < 3 * 4300)]; rfl
    show wpAny M A (if a.natAbs.log2 / 30 + 1 > 1000 then _ else (if ((4300 : Nat) == 0 || decide (a.natAbs.log2 < 3 * 4300)) = true then _ else _)) Q E s
    rw [if_neg e1, if_pos e2]
    exact wpAny_pure q
theorem big_text {a : Int} (h : a.natAbs.log2 < 12900) : (Str.ofString (toString a)).length ≤ 12901 := by
  rw [PySem.ofString_length]
  exact PySem.int_text_length_le (k := 12900) (by decide) h
theorem gives_big (a : Int) (t : Tok) (l : LimK K) (h : a.natAbs.log2 < 12900) : GivesAt (fun s => K.In s.heap) (Builtin.«int.__repr__» ⟨[.int a t], []⟩) (.str (toString a)) := by
  intro prog w A R s X hq
  unfold Builtin.«int.__repr__»
  show wpAny _ _ (do let r ← Builtin.overDigitLimit? a; _) _ _ _
  refine wpAny_bind (over_big X l h ?_)
  exact wpAny_bind (wpAny_mkStr (wpAny_pure hq.2) hq.1)
theorem repr_big {a : Int} {t : Tok} {Q : Value → Shared → Prop} (X : K.In s.heap) (l : LimK K) (h : a.natAbs.log2 < 12900) (q : Q (.str (toString a) s.toks) { s with toks := s.toks + 1 }) : wpAny (model prog w) A (pyReprObj (.int a t)) Q E s := by
  unfold pyReprObj
  simp only [cRoomFor, List.any, Value.onHeap, Bool.or_self, Bool.false_eq_true, if_false, pure_bind]
  refine wpAny_bind (wpAny_specialOf (name := Str.ofString "__repr__") (typeIs_int s a t) F.slot_int_repr.lookup ?_)
  refine wpAny_bind (m := callSpecialIfBound? (.int a t) (Str.ofString "__repr__")) (wpAny_callSpecialIfBound?_slot (name := Str.ofString "__repr__") (typeIs_int s a t) F.slot_int_repr
    (call_givesAt F.slot_int_repr (typeIs_int s a t) F.entry_int_repr (F.args_int_repr_1 _) (gives_big a t l h) X ⟨Nat.le_trans (big_text h) (by decide), ?_⟩))
  exact wpAny_bind (wpAny_isInstance (T := "str") (b := true) rfl isSubtype_str_str (wpAny_pure q))
theorem ReprK.big {a : Int} (t : Tok) (X : K.In h₀) (l : LimK K) (h : a.natAbs.log2 < 12900) (as : List Addr) (d : Nat) : ReprK prog w as h₀ d (.int a t) (toString a) := fun n hn A _ E s Q _ _ _ hk hQ => by
  have hn' : n ≤ sizeLine := by omega
  rw [pyReprUnder_leaf (v := .int a t) hn' (fun _ e => nomatch e)]
  unfold pyRepr
  exact wpAny_bind (repr_big (X.keeps hk) l h (wpAny_pure (hQ s.heap _ fun _ _ e => e)))
mutual
theorem shown_of (X : K.In h₀) (l : LimK K) : ∀ {v : Value} {d : PyData} {as : List Addr}, Reads h₀ v d as → shw d = true → d.shown.length ≤ sizeLine → ∃ bs, ReadAtMost h₀ d.depth bs ∧ ReprK prog w bs h₀ d.depth v d.shown
  | _, _, _, .none, _, _ => ⟨[], (fun _ h => nomatch h), by simp only [PyData.shown]; exact .of_is ReprIs.none _ _ _⟩
  | _, _, _, .bool b, _, _ => ⟨[], (fun _ h => nomatch h), by simp only [PyData.shown]; exact .of_is (ReprIs.bool b) _ _ _⟩
  | _, _, _, .int i t, hs, _ => ⟨[], (fun _ h => nomatch h), by simp only [PyData.shown]; exact ReprK.big t X l (by simpa [shw] using hs) _ _⟩
  | _, _, _, .str x t, _, hz => ⟨[], (fun _ h => nomatch h), by simp only [PyData.shown]; exact .of_is (ReprIs.str x t (by simpa only [PyData.shown] using hz)) _ _ _⟩
  | _, _, _, .list (a := a) (vs := vs) (xs := xs) h1 h2 h3 h4, hs, hz => by
    have tz : (listText (PyData.shownAll xs)).length ≤ sizeLine := by simpa only [PyData.shown] using hz
    obtain ⟨bs, hb, hk⟩ := shown_all X l h4 (by simpa [shw] using hs) (fun t ht => Nat.le_trans (listText_mem_le ht) tz)
    have r : Reads h₀ (.ref a) (.list xs) _ := .list h1 h2 h3 h4
    have out : a ∉ bs := not_mem_of_deeper r (by simp only [PyData.depth]; omega) hb
    refine ⟨a :: bs, ReadAtMost.cons r (by simp only [PyData.depth]; omega) hb, ?_⟩
    simp only [PyData.depth, PyData.shown]
    obtain ⟨us⟩ := vs
    cases us with
    | nil =>
      have h5 : ReadsAll h₀ [] xs _ := h4
      cases h5
      simp only [PyData.shownAll, listText_nil]
      exact ReprK.listEmpty h1 h2 h3
    | cons x us => exact ReprK.list h1 h2 h3 out (by simpa using hk.length_eq) (fun i y e => hk.item i y (by simpa using e))
  | _, _, _, .tuple (a := a) (xs := xs) h1 h2 h3 h4, hs, hz => by
    have tz : (tupleText (PyData.shownAll xs)).length ≤ sizeLine := by simpa only [PyData.shown] using hz
    obtain ⟨bs, hb, hk⟩ := shown_all X l h4 (by simpa [shw] using hs) (fun t ht => Nat.le_trans (tupleText_mem_le ht) tz)
    have r : Reads h₀ (.ref a) (.tuple xs) _ := .tuple h1 h2 h3 h4
    have out : a ∉ bs := not_mem_of_deeper r (by simp only [PyData.depth]; omega) hb
    refine ⟨a :: bs, ReadAtMost.cons r (by simp only [PyData.depth]; omega) hb, ?_⟩
    simp only [PyData.depth, PyData.shown]
    exact ReprK.tuple h1 h2 h3 out hk
  | _, _, _, .dict _ _ _ _ _, hs, _ => by simp [shw] at hs
theorem shown_all (X : K.In h₀) (l : LimK K) : ∀ {vs : List Value} {ds : List PyData} {as : List Addr}, ReadsAll h₀ vs ds as → shws ds = true → (∀ t ∈ PyData.shownAll ds, t.length ≤ sizeLine) →
    ∃ bs, ReadAtMost h₀ (PyData.depthAll ds) bs ∧ ReprAllK prog w bs h₀ (PyData.depthAll ds) vs (PyData.shownAll ds)
  | _, _, _, .nil, _, _ => ⟨[], (fun _ h => nomatch h), by simp only [PyData.shownAll]; exact .nil⟩
  | _, _, _, .cons (d := d) (ds := ds) r rs, hs, hz => by
    have hs2 : shw d = true ∧ shws ds = true := by simpa [shws] using hs
    obtain ⟨b1, hb1, k1⟩ := shown_of X l r hs2.1 (hz _ (by simp only [PyData.shownAll]; exact List.mem_cons_self ..))
    obtain ⟨b2, hb2, k2⟩ := shown_all X l rs hs2.2 (fun t ht => hz t (by simp only [PyData.shownAll]; exact List.mem_cons_of_mem _ ht))
    refine ⟨b1 ++ b2, fun b hm => ?_, ?_⟩
    · simp only [PyData.depthAll]
      rcases List.mem_append.mp hm with hm | hm
      · obtain ⟨d1, as1, r1, hd1⟩ := hb1 b hm
        exact ⟨d1, as1, r1, Nat.le_trans hd1 (Nat.le_max_left _ _)⟩
      · obtain ⟨d1, as1, r1, hd1⟩ := hb2 b hm
        exact ⟨d1, as1, r1, Nat.le_trans hd1 (Nat.le_max_right _ _)⟩
    · simp only [PyData.depthAll, PyData.shownAll]
      exact .cons ((k1.more fun b hb => List.mem_append_left _ hb).level_le (Nat.le_max_left _ _)) (k2.more_le (fun b hb => List.mem_append_right _ hb) (Nat.le_max_right _ _))
end
/-- a list or a tuple, by repr -/
theorem repr_seq {a : Addr} {d : PyData} {as : List Addr} {Q : Value → Shared → Prop} (X : K.In s.heap) (l : LimK K) (r : Reads s.heap (.ref a) d as) (hs : shw d = true) (hg : A.guards = some []) (hu : A.units + (d.depth + 1) < cLine) (hz : d.shown.length ≤ sizeLine)
    (hQ : ∀ h' u tk, (∀ b o, s.heap.get? b = some o → h'.get? b = some o) → Q (.str d.shown u) { s with heap := h', toks := tk }) : wpAny (model prog w) A (call (.builtin "repr") [.ref a]) Q E s := by
  have hu1 : A.in1.units + d.depth < cLine := by show A.units + 1 + d.depth < cLine; omega
  cases r with
  | list h1 h2 h3 h4 =>
    rename_i o vs n xs bs₀
    have tz : (listText (PyData.shownAll xs)).length ≤ sizeLine := by simpa only [PyData.shown] using hz
    obtain ⟨bs, hb, hk⟩ := shown_all (prog := prog) (w := w) X l h4 (by simpa [shw] using hs) (fun t ht => Nat.le_trans (listText_mem_le ht) tz)
    have out : a ∉ bs := not_mem_of_deeper (.list h1 h2 h3 h4) (by simp only [PyData.depth]; omega) hb
    simp only [PyData.depth] at hu1
    simp only [PyData.shown] at hQ
    refine call_repr_slot (by omega) ⟨o, h1, h2⟩ F.slot_list_repr.toG ?_
    obtain ⟨us⟩ := vs
    cases us with
    | nil =>
      have h5 : ReadsAll s.heap [] xs _ := h4
      cases h5
      simp only [PyData.shownAll, listText_nil] at hQ
      exact call_list_repr_empty ⟨o, h1, h2⟩ h1 h3 ⟨_, _, rfl, hQ s.heap _ _ fun _ _ e => e⟩
    | cons x us =>
      exact call_list_reprK (h₀ := s.heap) h1 h2 h3 out (by simpa using hk.length_eq) (fun i y e => hk.item i y (by simpa using e)) hg (fun b _ => Clear.nil b) hu1 (fun _ _ e => e) (fun h' u tk k => ⟨_, _, rfl, hQ h' u tk k⟩) tz
  | tuple h1 h2 h3 h4 =>
    rename_i o vs n xs
    have tz : (tupleText (PyData.shownAll xs)).length ≤ sizeLine := by simpa only [PyData.shown] using hz
    obtain ⟨bs, hb, hk⟩ := shown_all (prog := prog) (w := w) X l h4 (by simpa [shw] using hs) (fun t ht => Nat.le_trans (tupleText_mem_le ht) tz)
    have out : a ∉ bs := not_mem_of_deeper (.tuple h1 h2 h3 h4) (by simp only [PyData.depth]; omega) hb
    simp only [PyData.depth] at hu1
    simp only [PyData.shown] at hQ
    refine call_repr_slot (by omega) ⟨o, h1, h2⟩ F.slot_tuple_repr ?_
    exact call_tuple_reprK (h₀ := s.heap) h1 h2 h3 out hk hg (fun b _ => Clear.nil b) hu1 (fun _ _ e => e) (fun h' u tk k => ⟨_, _, rfl, hQ h' u tk k⟩) tz
  | dict h1 h2 h3 h4 h5 => simp [shw] at hs
theorem repr_int {a : Int} {t : Tok} {Q : Value → Shared → Prop} (X : K.In s.heap) (l : LimK K) (h : a.natAbs.log2 < 12900) (q : Q (.str (toString a) s.toks) { s with toks := s.toks + 1 }) : wpAny (model prog w) A (call (.builtin "repr") [.int a t]) Q E s := by
  refine Calls.call_function_entry F.kind_repr F.plain_repr F.entry_repr (F.args_repr1 _) ?_
  unfold Builtin.«repr»
  refine wpAny_bind (m := oneArg "repr" _) (wpAny_pure ?_)
  simp only [cRoomFor, List.any, Value.onHeap, Bool.or_self, Bool.false_eq_true, if_false, pure_bind]
  refine wpAny_bind (wpAny_specialOf (name := Str.ofString "__repr__") (typeIs_int s a t) F.slot_int_repr.lookup ?_)
  refine wpAny_bind (m := callSpecialIfBound? (.int a t) (Str.ofString "__repr__")) (wpAny_callSpecialIfBound?_slot (name := Str.ofString "__repr__") (typeIs_int s a t) F.slot_int_repr
    (call_givesAt F.slot_int_repr (typeIs_int s a t) F.entry_int_repr (F.args_int_repr_1 _) (gives_big a t l h) X ⟨Nat.le_trans (big_text h) (by decide), ?_⟩))
  refine wpAny_bind (wpAny_isInstance (T := "str") (b := true) rfl isSubtype_str_str ?_)
  exact wpAny_pure ⟨_, rfl, q⟩
end
/-- repr -/
def rRepr (K : PySem.W.Frag) : List V → Hp → VK → Prop := fun xs H Q => ∃ x d, xs = [x] ∧ Dp K H x d ∧ shw d = true ∧ d.shown.length ≤ sizeLine ∧ d.depth ≤ 60 ∧ Q (.str d.shown) H
theorem call_reprD {k : Nat} (kl : LimK X.K) (hr : RoomG k X.A) : CallR X (.builtin "repr") (rRepr X.K) := by
  intro pins s σ H xs us Q I r h
  obtain ⟨x, d, rfl, hd, hs, hz, hdep, q⟩ := h
  obtain ⟨u, rfl, ru⟩ := vals1 r
  obtain ⟨as, rd⟩ := Dp.reads I d x u hd ru
  have hu := hr.r.un
  have hu' : X.A.units + (d.depth + 1) < cLine := by omega
  have big : ∀ {a : Addr}, Reads s.heap (.ref a) d as → wpAny (model X.prog X.w) X.A (call (.builtin "repr") [.ref a]) (EP X pins σ Q) X.xe s := fun rd =>
    repr_seq I.kIn kl rd hs hr.g hu' hz (fun h' u tk hk => ⟨.str d.shown, H, I.kept (t' := tk) hk, ⟨_, rfl⟩, q⟩)
  cases hd with
  | non => cases ru; exact PySem.P.repr_of_none ⟨.str _, H, I.tok _, ⟨_, rfl⟩, by simpa [PyData.shown] using q⟩
  | bl b => cases ru; exact PySem.P.repr_of_bool ⟨.str _, H, I.tok _, ⟨_, rfl⟩, by simpa [PyData.shown] using q⟩
  | int i =>
    obtain ⟨t, rfl⟩ := ru
    exact repr_int I.kIn kl (by simpa [shw] using hs) ⟨.str _, H, I.tok _, ⟨_, rfl⟩, by simpa [PyData.shown] using q⟩
  | str z =>
    obtain ⟨t, rfl⟩ := ru
    exact PySem.P.repr_of_str ⟨.str _, H, I.tok _, ⟨_, rfl⟩, by simpa [PyData.shown] using q⟩ (by simpa [PyData.shown] using hz)
  | lst h a => cases ru; exact big rd
  | tup h a => cases ru; exact big rd
def shD (d : DD) : Str := d.py.shown
def okR (d : DD) : Prop := d.pure = true ∧ shw d.py = true ∧ (shD d).length ≤ sizeLine ∧ d.py.depth ≤ 60
@[simp] def oRepr : OpN := fun ds P => ∃ d, ds = [d] ∧ okR d ∧ P (.str (shD d))
theorem p_repr {k : Nat} (kl : LimK X.K) (hr : RoomG k X.A) (hm : X.mg "repr" = none) (ha : PDos X io [e] fos) (hg : Gl X "repr" := by rfl) (he : starEach [e] X.env = (false, eval e X.env) :: starEach [] X.env := by rfl) : PDv X io (.Call (.Name "repr" p) [e] [] pos) (fCB oRepr fos) :=
  p_cb (call_reprD kl hr) (fun H xs ds P Q hx h k => by
    obtain ⟨d, rfl, ⟨h1, h2, h3, h4⟩, q⟩ := h
    obtain ⟨x, rfl, r⟩ := hx.one
    exact ⟨x, _, rfl, r.dp h1, h2, h3, h4, k _ _ q (.str _)⟩) hm PyProof.Rows.boot_repr ha hg (by decide) (by decide) he
end
end DL

namespace DL
open PySem PySem.Spec PyProof.Rows L2
section
variable {X : Cx} {io : List Nat} {e : Expr}
/-- the slot's tree is data from now on -/
@[simp] def fSeal (io : List Nat) (i : Nat) : FV := fun ρ Q => ∃ t, ρ[i]? = some (some t) ∧ i ∉ io ∧ Q t.data (ρ.set i (some (.dat t.data)))
theorem n_sl {te : TE} (i : Nat) (h : PE X e te) (ht : te = tVar i) : PDv X io e (fSeal io i) := by
  subst ht
  refine ⟨_, h, fun B G H σ ρ fp Qd Q hB R hf k => ?_⟩
  obtain ⟨t, e1, ni, q⟩ := hf
  obtain ⟨v, e2, ot⟩ := R.co.slot i _ e1
  have hi : i ∉ B.io := by rw [hB]; exact ni
  have inn : ∀ a, In (fun j => if j = i then [] else fp j) a → In fp a := fun a ⟨j, m⟩ => by
    by_cases e1 : j = i
    · simp [e1] at m
    · simp only [if_neg e1] at m
      exact ⟨j, m⟩
  have n1 : Nxt X.K B σ G H fp G H (ρ.set i none) (fun j => if j = i then [] else fp j) := ⟨R.drop i hi, Stp.refl G H, fun a h => .inl (inn a h)⟩
  obtain ⟨n2, rq⟩ := Nxt.sealed R n1 ot (fun a m ⟨j, m'⟩ => by
    by_cases e1 : j = i
    · simp [e1] at m'
    · simp only [if_neg e1] at m'
      exact e1 (R.co.dis j i a m' m)) (fun a m => .inr ⟨i, m⟩)
  have R3 := n2.rp.put (i := i) hi (.dat rq) (fun _ z => nomatch z) (fun _ z => nomatch z)
  have es : σ.set i (some v) = σ := by
    apply List.ext_getElem?
    intro j
    by_cases e : j = i
    · subst e
      rw [e2, List.getElem?_set_self (List.getElem?_eq_some_iff.mp e2).1]
    · rw [List.getElem?_set_ne (Ne.symm e)]
  rw [es, List.set_set] at R3
  refine ⟨v, e2, k _ _ v _ H _ ⟨R3, n2.st, fun a ⟨j, m⟩ => ?_⟩ rq q⟩
  by_cases e : j = i
  · simp [e] at m
  · simp only [if_neg e] at m
    exact n2.inn a ⟨j, by simp only [if_neg e]; exact m⟩
end
def datB : SV → Bool
  | .dat _ => true
  | _ => false
def shpG (io : List Nat) : Nat → List SV → Bool
  | _, [] => true
  | k, t :: r => (decide (k ∈ io) || datB t) && shpG io (k + 1) r
def shp (n : Nat) (io : List Nat) (as : List SV) : Bool := decide (as.length = n) && shpG io 0 as
theorem shpG_of {io : List Nat} : ∀ {as : List SV} {k i : Nat} {t : SV}, shpG io k as = true → as[i]? = some t → k + i ∈ io ∨ ∃ d, t = .dat d
  | [], _, _, _, _, h => by simp at h
  | a :: r, k, 0, t, h, e => by
    simp at e; subst e
    simp [shpG] at h
    rcases h.1 with z | z
    · exact .inl (by simpa using z)
    · cases a with
      | dat d => exact .inr ⟨d, rfl⟩
      | own _ => cases z
      | ob _ _ => cases z
      | tp _ => cases z
  | a :: r, k, i + 1, t, h, e => by
    simp [shpG] at h
    have := shpG_of (i := i) h.2 (by simpa using e)
    have ee : k + 1 + i = k + (i + 1) := by omega
    rwa [ee] at this
section
variable {P : Program} {w : World} {K : PySem.W.Frag} {mg : Str → Option Value} {base : Heap} {f : Addr} {fd : FuncData} {x qual : Str} {params : Arguments} {body : List Stmt} {scope : Scope} {N ps : List Str} {k : Nat}
theorem okF {F : Ctr} (io : List Nat) {fs : FS} (F0 : FunD K x qual params body scope [] [] f fd) (S : FnScope N ps scope)
    (hbody : ∀ (cdv : Value) (A : Around) (outer : List Env) (s : Shared) (H : Hp) (E : XK), RoomG k (A.deeper (envOfC qual scope s.heap.objs.size f cdv)) → PDss (cxOf CX0 P w K mg base N qual scope f cdv A outer s H E).nox io body fs)
    (hsh : ∀ as Q, F as Q → shp ps.length io as = true) (hil : (io.all fun i => decide (i < ps.length)) = true)
    (hF : ∀ as Q, F as Q → fs ⟨fun ρ => Q (.dat .non) (outs io as ρ), fun r ρ => Q r (outs io as ρ), fun _ => False, fun _ => False⟩ (as.map some ++ List.replicate (N.length - ps.length) none)) :
    FnG P w K mg base CX0 (k + 1) f fd ps (spD K F) := by
  have h1 : ∀ as Q, F as Q → as.length = ps.length ∧ shpG io 0 as = true := fun as Q h => by
    have := hsh as Q h
    unfold shp at this
    simpa using this
  exact okG F0 S hbody (fun as Q h => (h1 as Q h).1) (fun as Q h i t e => by simpa using shpG_of (h1 as Q h).2 e) (fun i m => of_decide_eq_true (List.all_eq_true.mp hil i m)) hF
/-- with the module's name -/
theorem hsF {F : Ctr} (G : FnG P w K mg base CX0 k f fd ps (spD K F)) (hm : mg x = some (.ref f)) (F0 : FunD K x qual params body scope [] [] f fd)
    (hb : ∀ (kV doc pm : Value) (an : Option Addr) (cdv ct : Value) (us : List Value), us.length = ps.length → bindArgs (PySem.W.fnOf x qual params body scope .none kV doc pm an cdv ct) ⟨us, []⟩ = pure (ps.zip us)) : Hs P w K mg base x ps k F :=
  ⟨f, fd, hm, F0.kp, F0.bindsN hb, G⟩
end
end DL

namespace DL
open PySem PySem.Spec PyProof.Rows L2
@[simp] theorem sizeLine_v : sizeLine = 2 ^ 24 := rfl
@[simp] theorem and_assoc_s {p q r : Prop} : (p ∧ q) ∧ r ↔ p ∧ q ∧ r := and_assoc
@[simp] theorem outs_u (io : List Nat) (as : List SV) (ρ : Rho) : outs io as ρ = if io = [] then as else outsG io ρ 0 as := rfl
@[simp] theorem outsG_nil (io : List Nat) (ρ : Rho) (k : Nat) : outsG io ρ k [] = [] := rfl
@[simp] theorem outsG_cons (io : List Nat) (ρ : Rho) (k : Nat) (t : SV) (r : List SV) : outsG io ρ k (t :: r) = (if k ∈ io then (ρ[k]?.join).getD t else t) :: outsG io ρ (k + 1) r := rfl
section
variable {a b : Int} {x y : Str} {p q : Bool} {l m : List DD}
theorem ieq {a b : Int} : (a == b) = decide (a = b) := by rw [Bool.eq_iff_iff]; simp
@[simp] theorem okD_int : okD (.int a) = true := by simp [okD, DD.pure, DD.py, SeqAt.shaped, PyData.canLay0, PyData.depth]
@[simp] theorem okD_bl : okD (.bl p) = true := by simp [okD, DD.pure, DD.py, SeqAt.shaped, PyData.canLay0, PyData.depth]
@[simp] theorem okD_non : okD .non = true := by simp [okD, DD.pure, DD.py, SeqAt.shaped, PyData.canLay0, PyData.depth]
@[simp] theorem eqD_int : eqD (.int a) (.int b) = decide (a = b) := by simp [eqD, DD.py, PyData.eqv, ieq]
theorem okD_ints {l : List Int} : DD.pures (l.map .int) = true ∧ PyData.canLayAll0 (DD.pys (l.map .int)) = true ∧ PyData.depthAll (DD.pys (l.map .int)) = 0 := by
  induction l with
  | nil => simp [DD.pures, DD.pys, PyData.canLayAll0, PyData.depthAll]
  | cons x l ih => simp [DD.pures, DD.pys, PyData.canLayAll0, PyData.depthAll, DD.pure, DD.py, PyData.canLay0, PyData.depth, ih]
@[simp] theorem okD_lint {l : List Int} : okD (.lst (l.map .int)) = true := by simp [okD, DD.pure, DD.py, SeqAt.shaped, PyData.canLay0, PyData.depth, okD_ints]
@[simp] theorem okD_tint {l : List Int} : okD (.tup (l.map .int)) = true := by simp [okD, DD.pure, DD.py, SeqAt.shaped, PyData.canLay0, PyData.depth, okD_ints]
@[simp] theorem okD_nil : okD (.lst []) = true := okD_lint (l := [])
@[simp] theorem okD_two : okD (.tup [.int a, .int b]) = true := okD_tint (l := [a, b])
theorem eqD_ints : ∀ {l m : List Int}, PyData.eqvAll (DD.pys (l.map .int)) (DD.pys (m.map .int)) = decide (l = m)
  | [], [] => by simp [DD.pys, PyData.eqvAll]
  | [], _ :: _ => by simp [DD.pys, PyData.eqvAll]
  | _ :: _, [] => by simp [DD.pys, PyData.eqvAll]
  | x :: l, y :: m => by
    have ih := eqD_ints (l := l) (m := m)
    simp only [List.map_cons, DD.pys, PyData.eqvAll, DD.py, PyData.eqv, ih, List.cons.injEq, ieq, Bool.decide_and]
@[simp] theorem eqD_lint {l m : List Int} : eqD (.lst (l.map .int)) (.lst (m.map .int)) = decide (l = m) := by simp [eqD, DD.py, PyData.eqv, eqD_ints]
@[simp] theorem eqD_lnil {l : List Int} : eqD (.lst (l.map .int)) (.lst []) = decide (l = []) := eqD_lint (m := [])
@[simp] theorem eqD_tint {l m : List Int} : eqD (.tup (l.map .int)) (.tup (m.map .int)) = decide (l = m) := by simp [eqD, DD.py, PyData.eqv, eqD_ints]
end
end DL

namespace DL
open PySem PySem.Spec PyProof.Rows L2
/-! indices -/
section
variable {α β : Type} {l : List α} {n k : Nat}
theorem ixN_nat (h : k < n) : ixN n (k : Int) = some k := by
  unfold ixN
  first | (simp [h]; done) | (simp; omega) | skip
theorem atI_map (g : α → β) (i : Int) : atI (l.map g) i = (atI l i).map g := by
  unfold atI
  rw [List.length_map]
  cases ixN l.length i with
  | none => rfl
  | some j => simp
end
section
variable {α : Type} {ds : List DD} {ts : List SV} {i k : Int} {x : Str} {P : DD → Prop} {Q : SV → Prop} {R : List DD → Prop} {lo hi : Option Int} {C : Addr}
@[simp] theorem ixT_lst : ixT (.dat (.lst ds)) i P ↔ ∃ d, atI ds i = some d ∧ P d := Iff.rfl
@[simp] theorem ixT_klst : ixT (.dat (.klst ds)) i P ↔ ∃ d, atI ds i = some d ∧ P d := Iff.rfl
@[simp] theorem ixT_tup : ixT (.dat (.tup ds)) i P ↔ ∃ d, atI ds i = some d ∧ P d := Iff.rfl
@[simp] theorem ixT_str : ixT (.dat (.str x)) i P ↔ ∃ c, x.length ≤ sizeLine ∧ atI x.cps.toList i = some c ∧ P (.str ⟨#[c]⟩) := Iff.rfl
@[simp] theorem ixT_own : ixT (.own ts) i P ↔ ∃ d, atI ts i = some (.dat d) ∧ P d := Iff.rfl
@[simp] theorem slT_lst : slT (.dat (.lst ds)) lo hi Q ↔ Q (.own ((cutD ds lo hi).map .dat)) := Iff.rfl
@[simp] theorem slT_own : slT (.own ts) lo hi Q ↔ ∃ ds : List DD, cutD ts lo hi = ds.map SV.dat ∧ Q (.own (ds.map SV.dat)) := Iff.rfl
@[simp] theorem slT_str : slT (.dat (.str x)) lo hi Q ↔ x.length ≤ sizeLine ∧ Q (.dat (.str (cutS x lo hi))) := Iff.rfl
@[simp] theorem lstT_lst : lstT (.dat (.lst ds)) R ↔ R ds := Iff.rfl
@[simp] theorem lstT_tup : lstT (.dat (.tup ds)) R ↔ R ds := Iff.rfl
@[simp] theorem lstT_own : lstT (.own ts) R ↔ ∃ ds : List DD, ts = ds.map SV.dat ∧ R ds := Iff.rfl
@[simp] theorem addT_int {j : Int} : addT (.dat (.int i)) (.dat (.int j)) Q ↔ Q (.dat (.int (i + j))) := Iff.rfl
@[simp] theorem addT_str {y : Str} : addT (.dat (.str x)) (.dat (.str y)) Q ↔ x.length + y.length ≤ sizeLine ∧ Q (.dat (.str (x ++ y))) := Iff.rfl
@[simp] theorem addT_own {t : SV} : addT (.own ts) t Q ↔ ∃ l m, itemsT (.own ts) = some l ∧ itemsT t = some m ∧ l.length + m.length ≤ sizeLine ∧ Q (.own (l ++ m)) := by cases t <;> exact Iff.rfl
@[simp] theorem addT_lst {t : SV} : addT (.dat (.lst ds)) t Q ↔ ∃ l m, itemsT (.dat (.lst ds)) = some l ∧ itemsT t = some m ∧ l.length + m.length ≤ sizeLine ∧ Q (.own (l ++ m)) := by
  cases t with
  | dat d => cases d <;> exact Iff.rfl
  | _ => exact Iff.rfl
@[simp] theorem data_own : (SV.own ts).data = .lst (ts.map SV.data) := by simp [SV.data, SV.datas_eq]
@[simp] theorem map_dat_data : (ds.map SV.dat).map SV.data = ds := by
  induction ds with
  | nil => rfl
  | cons d r ih => simp [ih]
@[simp] theorem comp_dat : SV.data ∘ SV.dat = id := by funext d; simp
@[simp] theorem atI_cons0 {a : α} {l : List α} : atI (a :: l) 0 = some a := by
  have := ixN_nat (n := (a :: l).length) (k := 0) (by simp)
  unfold atI
  rw [show (0 : Int) = ((0 : Nat) : Int) from rfl, this]
  rfl
@[simp] theorem atI_cons1 {a b : α} {l : List α} : atI (a :: b :: l) 1 = some b := by
  have := ixN_nat (n := (a :: b :: l).length) (k := 1) (by simp)
  unfold atI
  rw [show (1 : Int) = ((1 : Nat) : Int) from rfl, this]
  rfl
@[simp] theorem atI_cons2 {a b c : α} {l : List α} : atI (a :: b :: c :: l) 2 = some c := by
  have := ixN_nat (n := (a :: b :: c :: l).length) (k := 2) (by simp)
  unfold atI
  rw [show (2 : Int) = ((2 : Nat) : Int) from rfl, this]
  rfl
theorem atI_nat {l : List α} {n : Nat} (h : n < l.length) : atI l (n : Int) = some l[n] := by
  unfold atI
  rw [ixN_nat h]
  simp [h]
theorem atI_end {l : List α} : atI l (-1) = l.getLast? := by
  unfold atI ixN
  cases l with
  | nil => simp
  | cons a l =>
    have : (1 : Int) ≤ l.length + 1 := by omega
    have e : (-1 + ((l.length : Int) + 1)).toNat = l.length := by omega
    simp [List.getLast?_eq_getElem?, this, e]
theorem atI_mapI {l : List Int} {i : Int} : atI (l.map DD.int) i = (atI l i).map DD.int := atI_map _ _
@[simp] theorem dats_nil {l : List DD} : ([] = l.map SV.dat) ↔ l = [] := by cases l <;> simp
@[simp] theorem dats_cons {d : SV} {t : List SV} {l : List DD} : (d :: t = l.map SV.dat) ↔ ∃ e r, l = e :: r ∧ d = .dat e ∧ t = r.map SV.dat := by
  constructor
  · intro h
    cases l with
    | nil => cases h
    | cons e r => exact ⟨e, r, rfl, by simpa using h⟩
  · rintro ⟨e, r, rfl, rfl, rfl⟩; rfl
@[simp] theorem dats_inj {l m : List DD} : (l.map SV.dat = m.map SV.dat) ↔ l = m := by
  constructor
  · intro h
    have := congrArg (List.map SV.data) h
    rwa [map_dat_data, map_dat_data] at this
  · rintro rfl; rfl
@[simp] theorem ints_dats {l : List Int} {m : List DD} : (l.map (fun i => SV.dat (.int i)) = m.map SV.dat) ↔ m = l.map .int := by
  have : l.map (fun i => SV.dat (.int i)) = (l.map DD.int).map SV.dat := by simp
  rw [this, dats_inj]
  exact eq_comm
theorem cutD_map {β : Type} (g : α → β) {l : List α} : cutD (l.map g) lo hi = (cutD l lo hi).map g := by
  unfold cutD
  simp
theorem cut_to {l : List α} {n : Nat} (h : n ≤ l.length) : cutD l none (some (n : Int)) = l.take n := by
  unfold cutD
  rw [HT.sIx_none, HT.sIx_nat, Nat.min_eq_left h]
  simp
@[simp] theorem cut_zero {l : List α} : DL.cutD l none (some 0) = [] := cut_to (n := 0) (Nat.zero_le _)
theorem cut_from {l : List α} {n : Nat} : cutD l (some (n : Int)) none = l.drop n := by
  unfold cutD
  rw [HT.sIx_none, HT.sIx_nat]
  by_cases h : n ≤ l.length
  · rw [Nat.min_eq_left h]
    apply List.take_of_length_le
    simp
  · rw [Nat.min_eq_right (by omega)]
    simp
    omega
end
/-! loops, told apart from what is walked -/
def forB (fg : FG) (f : FS) (ds : List DD) (D : DEnds) (ρ1 : Rho) : Prop := ∃ W : Nat → Rho → Prop, W 0 ρ1 ∧ (∀ (i : Nat) d ρ, ds[i]? = some d → W i ρ → fg d ρ fun ρ2 => f { D with nx := W (i + 1), ct := W (i + 1), bk := D.nx } ρ2) ∧ ∀ ρ, W ds.length ρ → D.nx ρ
@[simp] theorem fFor_app {fi : FI} {fg : FG} {f : FS} {D : DEnds} {ρ : Rho} : fFor fi fg f D ρ = fi ρ fun ds ρ1 => forB fg f ds D ρ1 := rfl
def lcB (fg : FG) (ft : FT) (fe : FE) (vs : List Nat) (ds : List DD) (Q : SV → Rho → Prop) (ρ1 : Rho) : Prop := ∃ W : Nat → List SV → Rho → Prop, W 0 [] ρ1 ∧
  (∀ (i : Nat) d acc ρ, ds[i]? = some d → W i acc ρ → plainB ρ vs = true ∧ fg d (wipeR ρ vs) fun ρ2 => ft ρ2 fun b ρ3 => if b = true then fe ρ3 fun r ρ4 => acc.length < sizeLine ∧ W (i + 1) (acc ++ [r]) (unwipe ρ4 ρ vs) else W (i + 1) acc (unwipe ρ3 ρ vs)) ∧
  ∀ acc ρ, W ds.length acc ρ → Q (.own acc) ρ
@[simp] theorem fLc_app {io : List Nat} {fi : FI} {fg : FG} {ft : FT} {fe : FE} {vs : List Nat} {ρ : Rho} {Q : SV → Rho → Prop} : fLc io fi fg ft fe vs ρ Q = fi ρ fun ds ρ1 => (∀ v ∈ vs, v ∉ io) ∧ lcB fg ft fe vs ds Q ρ1 := rfl
section
variable {fg : FG} {ft : FT} {fe : FE} {vs : List Nat} {ds : List DD} {Q : SV → Rho → Prop} {ρ1 : Rho} {f : FS} {D : DEnds}
theorem for_inv (W : Nat → Rho → Prop) (h0 : W 0 ρ1) (hs : ∀ (i : Nat) d ρ, ds[i]? = some d → W i ρ → fg d ρ fun ρ2 => f { D with nx := W (i + 1), ct := W (i + 1), bk := D.nx } ρ2) (hd : ∀ ρ, W ds.length ρ → D.nx ρ) : forB fg f ds D ρ1 := ⟨W, h0, hs, hd⟩
theorem lc_inv (W : Nat → List SV → Rho → Prop) (h0 : W 0 [] ρ1) (hs : ∀ (i : Nat) d acc ρ, ds[i]? = some d → W i acc ρ → plainB ρ vs = true ∧ fg d (wipeR ρ vs) fun ρ2 => ft ρ2 fun b ρ3 => if b = true then fe ρ3 fun r ρ4 => acc.length < sizeLine ∧ W (i + 1) (acc ++ [r]) (unwipe ρ4 ρ vs) else W (i + 1) acc (unwipe ρ3 ρ vs))
    (hd : ∀ acc ρ, W ds.length acc ρ → Q (.own acc) ρ) : lcB fg ft fe vs ds Q ρ1 := ⟨W, h0, hs, hd⟩
/-- each item by itself, the state untouched -/
theorem lc_map (g : DD → SV) (hl : ds.length ≤ sizeLine) (hp : plainB ρ1 vs = true) (hs : ∀ d ∈ ds, ∀ R : SV → Rho → Prop, R (g d) ρ1 → fg d (wipeR ρ1 vs) fun ρ2 => fe ρ2 fun r ρ4 => R r (unwipe ρ4 ρ1 vs))
    (hd : Q (.own (ds.map g)) ρ1) : lcB fg fYes fe vs ds Q ρ1 := by
  refine lc_inv (fun i acc ρ => ρ = ρ1 ∧ acc = (ds.take i).map g) ⟨rfl, rfl⟩ ?_ ?_
  · rintro i d acc ρ hi ⟨rfl, rfl⟩
    refine ⟨hp, ?_⟩
    have hlt := (List.getElem?_eq_some_iff.mp hi).1
    have := hs d (List.mem_of_getElem? hi) (fun r ρ' => ((ds.take i).map g).length < sizeLine ∧ ρ' = ρ ∧ (ds.take i).map g ++ [r] = (ds.take (i + 1)).map g) ⟨by rw [List.length_map, List.length_take]; exact Nat.lt_of_le_of_lt (Nat.min_le_left _ _) (Nat.lt_of_lt_of_le hlt hl), rfl, by rw [List.take_add_one, hi]; simp⟩
    simpa [fYes] using this
  · rintro acc ρ ⟨rfl, rfl⟩
    rw [List.take_length]
    exact hd
end
/-! sizes -/
def Sm (k : Nat) (n : Int) : Prop := n.natAbs < 2 ^ k
theorem Sm.mono {k l : Nat} {n : Int} (h : Sm k n) (le : k ≤ l) : Sm l n := Nat.lt_of_lt_of_le h (Nat.pow_le_pow_right (by decide) le)
theorem Sm.neg {k : Nat} {n : Int} (h : Sm k n) : Sm k (-n) := by unfold Sm at *; rwa [Int.natAbs_neg]
theorem Sm.mul {k l : Nat} {m n : Int} (h : Sm k m) (h' : Sm l n) : Sm (k + l) (m * n) := by
  unfold Sm at *
  rw [Int.natAbs_mul, Nat.pow_add]
  exact Nat.mul_lt_mul'' h h'
theorem Sm.add {k l : Nat} {m n : Int} (h : Sm k m) (h' : Sm l n) : Sm (max k l + 1) (m + n) := by
  have a := h.mono (Nat.le_max_left k l)
  have b := h'.mono (Nat.le_max_right k l)
  unfold Sm at *
  rw [Nat.pow_succ]
  omega
theorem Sm.sub {k l : Nat} {m n : Int} (h : Sm k m) (h' : Sm l n) : Sm (max k l + 1) (m - n) := by
  rw [Int.sub_eq_add_neg]; exact h.add h'.neg
theorem Sm.log {k : Nat} {n : Int} (h : Sm k n) (h0 : 0 < k) : n.natAbs.log2 < k := by
  by_cases z : n.natAbs = 0
  · rw [z]; simpa using h0
  · exact (Nat.log2_lt z).mpr h
theorem Sm.le {k : Nat} {m n : Int} (h : Sm k m) (le : n.natAbs ≤ m.natAbs) : Sm k n := Nat.lt_of_le_of_lt le h
theorem Sm.pylong {k : Nat} {n : Int} (i : Int) (h : Sm k n) (h0 : k ≤ 9000 := by decide) : Builtin.divisionGoesByPylong i n = false := by
  have := (h.mono h0).log (by decide)
  exact PyProof.noPylong_of_log2 this
theorem Sm.bits {k : Nat} {n : Int} (h : Sm k n) : Builtin.Int.intBits n ≤ k := by
  unfold Builtin.Int.intBits
  by_cases z : n = 0
  · simp [z]
  · have : n.natAbs ≠ 0 := by omega
    have := (Nat.log2_lt this).mpr h
    simp [z]
    omega
theorem Sm.of_bits {k : Nat} {n : Int} (h : Builtin.Int.intBits n ≤ k) : Sm k n := by
  unfold Builtin.Int.intBits at h
  unfold Sm
  by_cases z : n = 0
  · simp [z]; exact Nat.pow_pos (by decide)
  · have z' : n.natAbs ≠ 0 := by omega
    simp [z] at h
    exact (Nat.log2_lt z').mp (by omega)
theorem Sm.ok {k l : Nat} {m n : Int} (h : Sm k m) (h' : Sm l n) (e : k + l ≤ 134217728 := by decide) : IntMulOk m n := PyProof.Rows.mulOk_of_bits h.bits h'.bits e
/-! fractions -/
def rT (q : Rat) : DD := .tup [.int q.num, .int (q.den : Int)]
theorem gcd_pos {a b : Int} (h : b ≠ 0) : 0 < (Int.gcd a b : Int) := by
  have : Int.gcd a b ≠ 0 := fun z => h (Int.gcd_eq_zero_iff.mp z).2
  omega
theorem rat_num {a b : Int} (h : b ≠ 0) : a.fdiv (if b < 0 then -(Int.gcd a b : Int) else Int.gcd a b) = (Rat.divInt a b).num := by
  rw [Rat.num_divInt, Int.gcd_comm b a]
  have g := gcd_pos (a := a) h
  obtain ⟨c, hc⟩ := Int.gcd_dvd_left a b
  generalize (Int.gcd a b : Int) = d at *
  subst hc
  split
  · rename_i l
    rw [Int.sign_eq_neg_one_of_neg l]
    have e1 : d * c = (-c) * (-d) := by grind
    have e2 : -1 * (d * c) = (-c) * d := by grind
    rw [e2, Int.mul_ediv_cancel _ (by omega), e1, Int.mul_fdiv_cancel _ (by omega)]
  · rename_i l
    rw [Int.sign_eq_one_of_pos (by omega)]
    rw [Int.one_mul, Int.mul_comm d c, Int.mul_ediv_cancel _ (by omega), Int.mul_fdiv_cancel _ (by omega)]
theorem rat_den {a b : Int} (h : b ≠ 0) : b.fdiv (if b < 0 then -(Int.gcd a b : Int) else Int.gcd a b) = ((Rat.divInt a b).den : Int) := by
  have g := gcd_pos (a := a) h
  rw [Rat.den_divInt, if_neg h, Int.gcd_comm b a]
  obtain ⟨c, hc⟩ := Int.gcd_dvd_right a b
  have e : ((b.natAbs / Int.gcd a b : Nat) : Int) = (b.natAbs : Int) / (Int.gcd a b : Int) := by simp
  rw [e]
  generalize (Int.gcd a b : Int) = d at *
  subst hc
  split
  · rename_i l
    have e1 : d * c = (-c) * (-d) := by grind
    have e2 : ((d * c).natAbs : Int) = (-c) * d := by
      have : d * c < 0 := l
      have e3 : (-c) * d = -(d * c) := by grind
      rw [e3]; omega
    rw [e2, Int.mul_ediv_cancel _ (by omega), e1, Int.mul_fdiv_cancel _ (by omega)]
  · rename_i l
    have e2 : ((d * c).natAbs : Int) = c * d := by rw [Int.mul_comm c d]; omega
    rw [e2, Int.mul_ediv_cancel _ (by omega), Int.mul_comm d c, Int.mul_fdiv_cancel _ (by omega)]
theorem gcd_small {k : Nat} {a b : Int} (h : b ≠ 0) (hs : Sm k b) : Sm k (Int.gcd a b : Int) := by
  unfold Sm at *
  simp only [Int.natAbs_natCast]
  exact Nat.lt_of_le_of_lt (Nat.le_of_dvd (by omega) (Nat.gcd_dvd_right a.natAbs b.natAbs)) hs
theorem rat_cop (q : Rat) : Int.gcd q.num q.den = 1 := q.reduced
/-- sizes of a fraction -/
structure Qb (k : Nat) (q : Rat) : Prop where
  n : Sm k q.num
  d : Sm k (q.den : Int)
theorem Qb.mono {k l : Nat} {q : Rat} (h : Qb k q) (le : k ≤ l) : Qb l q := ⟨h.n.mono le, h.d.mono le⟩
theorem Qb.of {k : Nat} {a b : Int} (ha : Sm k a) (hb : Sm k b) (h0 : b ≠ 0) : Qb k (Rat.divInt a b) := by
  have g := gcd_pos (a := a) h0
  refine ⟨ha.le ?_, hb.le ?_⟩
  · rw [Rat.num_divInt]
    refine Nat.le_trans (Int.natAbs_ediv_le_natAbs _ _) ?_
    rw [Int.natAbs_mul]
    have : b.sign.natAbs ≤ 1 := by rw [Int.natAbs_sign]; split <;> omega
    calc b.sign.natAbs * a.natAbs ≤ 1 * a.natAbs := Nat.mul_le_mul_right _ this
      _ = a.natAbs := Nat.one_mul _
  · rw [Rat.den_divInt, if_neg h0]
    simp only [Int.natAbs_natCast]
    exact Nat.div_le_self _ _
theorem rden (x : Rat) : (x.den : Int) ≠ 0 := by have := x.den_pos; omega
theorem rat_add (x y : Rat) : Rat.divInt (x.num * y.den + y.num * x.den) (x.den * y.den) = x + y := by
  have h := Rat.divInt_add_divInt x.num y.num (rden x) (rden y)
  rw [Rat.num_divInt_den, Rat.num_divInt_den] at h
  exact h.symm
theorem rat_mul (x y : Rat) : Rat.divInt (x.num * y.num) (x.den * y.den) = x * y := by
  have h := Rat.divInt_mul_divInt x.num y.num (d₁ := x.den) (d₂ := y.den)
  rw [Rat.num_divInt_den, Rat.num_divInt_den] at h
  exact h.symm
theorem Qb.mul {k l : Nat} {x y : Rat} (h : Qb k x) (h' : Qb l y) : Qb (k + l) (x * y) := by
  rw [← rat_mul]
  exact Qb.of (h.n.mul h'.n) (h.d.mul h'.d) (Int.mul_ne_zero (rden x) (rden y))
theorem Qb.add {k l : Nat} {x y : Rat} (h : Qb k x) (h' : Qb l y) : Qb (k + l + 1) (x + y) := by
  rw [← rat_add]
  refine Qb.of ?_ ((h.d.mul h'.d).mono (by omega)) (Int.mul_ne_zero (rden x) (rden y))
  exact ((h.n.mul h'.d).add (h'.n.mul h.d)).mono (by omega)
theorem Qb.int {k : Nat} {i : Int} (h : Sm k i) (hk : 1 ≤ k := by decide) : Qb k (i : Rat) := by
  refine ⟨by simpa using h, ?_⟩
  have : Sm 1 (1 : Int) := by unfold Sm; decide
  simpa using this.mono hk
/-! polynomials -/
def evalR : List Int → Rat → Rat
  | [], _ => 0
  | c :: l, x => (c : Rat) + x * evalR l x
def dI (l : List Int) : DD := .lst (l.map .int)
def oI (l : List Int) : SV := .own (l.map fun i => .dat (.int i))
theorem oI_data (l : List Int) : (oI l).data = dI l := by simp [oI, dI, SV.data, SV.datas_eq]
/-- zeros off the end -/
def trim : List Int → List Int
  | [] => []
  | c :: l => match trim l with
    | [] => if c = 0 then [] else [c]
    | t => c :: t
def addP : List Int → List Int → List Int
  | [], m => m
  | l, [] => l
  | a :: l, b :: m => (a + b) :: addP l m
theorem repT_int {c k : Int} : repT [DD.int c] k = (List.replicate k.toNat c).map DD.int := by simp [repT]
theorem zipD_ints {l m : List Int} : zipD (l.map .int) (m.map .int) = (l.zip m).map fun p => DD.tup [.int p.1, .int p.2] := by
  unfold zipD
  rw [List.zip_map, List.map_map]
  rfl
theorem maxI {a b : Nat} : (if a < b then (b : Int) else (a : Int)) = ((max a b : Nat) : Int) := by split <;> omega
theorem pad_int {l : List Int} {k : Nat} {c : Int} : l.map DD.int ++ List.replicate k (DD.int c) = (l ++ List.replicate k c).map DD.int := by simp
theorem zip_zl : ∀ m : List Int, List.zipWith (· + ·) (List.replicate m.length 0) m = m
  | [] => rfl
  | b :: m => by
    have ih := zip_zl m
    simp only [List.length_cons, List.replicate_succ, List.zipWith_cons_cons, Int.zero_add]
    rw [ih]
theorem zip_zr : ∀ m : List Int, List.zipWith (· + ·) m (List.replicate m.length 0) = m
  | [] => rfl
  | b :: m => by
    have ih := zip_zr m
    simp only [List.length_cons, List.replicate_succ, List.zipWith_cons_cons, Int.add_zero]
    rw [ih]
theorem zip_pad : ∀ (l m : List Int), List.zipWith (· + ·) (l ++ List.replicate (max l.length m.length - l.length) 0) (m ++ List.replicate (max l.length m.length - m.length) 0) = addP l m
  | [], [] => by simp [addP]
  | [], b :: m => by
    have := zip_zl (b :: m)
    simpa [addP] using this
  | a :: l, [] => by
    have := zip_zr (a :: l)
    simpa [addP] using this
  | a :: l, b :: m => by
    have ih := zip_pad l m
    have e1 : max (a :: l).length (b :: m).length - (a :: l).length = max l.length m.length - l.length := by simp
    have e2 : max (a :: l).length (b :: m).length - (b :: m).length = max l.length m.length - m.length := by simp
    rw [e1, e2, List.cons_append, List.cons_append, List.zipWith_cons_cons, ih, addP]
theorem addP_len : ∀ (l m : List Int), (addP l m).length = max l.length m.length
  | [], m => by simp [addP]
  | a :: l, [] => by simp [addP]
  | a :: l, b :: m => by simp [addP, addP_len l m]
theorem trim_snoc0 : ∀ l : List Int, trim (l ++ [0]) = trim l
  | [] => rfl
  | c :: l => by simp only [List.cons_append, trim, trim_snoc0 l]
theorem trim_eq : ∀ l : List Int, l.getLast? ≠ some 0 → trim l = l
  | [], _ => rfl
  | [c], h => by
    simp at h
    simp [trim, h]
  | c :: b :: l, h => by
    have ih := trim_eq (b :: l) (by simpa [List.getLast?_cons_cons] using h)
    rw [trim, ih]
theorem trim_last : ∀ l : List Int, (trim l).getLast? ≠ some 0
  | [] => by simp [trim]
  | c :: l => by
    have ih := trim_last l
    rw [trim]
    split
    · split <;> simp [*]
    · rename_i t h
      cases e : trim l with
      | nil => exact absurd e h
      | cons x t => rw [e] at ih; rw [List.getLast?_cons_cons]; exact ih
end DL

namespace DL
open PySem PySem.Spec PyProof.Rows L2
/-! ### calls with names -/
@[simp] def gP {α : Type} (n m : Nat) (ix : List Nat) (us ws : List α) : List α := if us.length = n ∧ ws.length = m then ix.filterMap (fun i => (us ++ ws)[i]?) else []
def DAd (K : PySem.W.Frag) (io : List Nat) (ta : TA) (fd : FDs) : Prop := ∀ (B : Bs) G H σ ρ fp (Qd : List DD → Rho → Prop) (Q : List V → Hp → Prop), B.io = io → Rp K B G H σ ρ fp → fd ρ Qd →
  (∀ ds ρ' vs G' H' fp', Nxt K B σ G H fp G' H' ρ' fp' → RqA K G' vs ds → Qd ds ρ' → Q vs H') → ta σ H Q
def PDpa (X : Cx) (io : List Nat) (es : List Expr) (fd : FDs) : Prop := ∃ ta, PA X es ta ∧ DAd X.K io ta fd
def PDkw (X : Cx) (io : List Nat) (kws : List Keyword) (fd : FDs) : Prop := ∃ ta, PK X kws ta ∧ DAd X.K io ta fd
@[simp] def kNil : FDs := fun ρ Q => Q [] ρ
@[simp] def kCons (fv : FV) (fd : FDs) : FDs := fun ρ Q => fv ρ fun d ρ1 => fd ρ1 fun ds ρ2 => Q (d :: ds) ρ2
section
variable {X : Cx} {io : List Nat} {e : Expr} {es : List Expr} {fd : FDs} {fv : FV} {kws : List Keyword} {nm : Option Str} {kpos : Pos}
theorem da_nil {K : PySem.W.Frag} : DAd K io tNil kNil := fun B G H σ ρ fp Qd Q hB R hf k => k [] ρ [] G H fp (Nxt.refl R) .nil hf
theorem da_cons {K : PySem.W.Frag} {te : TE} {ta : TA} (a2 : DV K io te fv) (b2 : DAd K io ta fd) : DAd K io (tCons te ta) (kCons fv fd) := fun B G H σ ρ fp Qd Q hB R hf k => by
  refine a2 B G H σ ρ fp _ _ hB R hf fun d ρ1 v1 G1 H1 fp1 n1 r1 hf => ?_
  refine b2 B G1 H1 σ ρ1 fp1 _ _ hB n1.rp hf fun ds ρ2 vs G2 H2 fp2 n2 rs q => ?_
  exact k _ ρ2 _ G2 H2 fp2 (n1.trans n2) (.cons (r1.mono n2.st.ex) rs) q
theorem p_nil : PDpa X io [] kNil := ⟨_, pa_nil, da_nil⟩
theorem p_val (ha : PDv X io e fv) (hr : PDpa X io es fd) (hs : starEach (e :: es) X.env = (false, eval e X.env) :: starEach es X.env := by rfl) : PDpa X io (e :: es) (kCons fv fd) := by
  obtain ⟨_, a1, a2⟩ := ha
  obtain ⟨_, b1, b2⟩ := hr
  exact ⟨_, pa_cons a1 b1 hs, da_cons a2 b2⟩
theorem k_nil : PDkw X io [] kNil := ⟨_, pk_nil, da_nil⟩
theorem k_val (ha : PDv X io e fv) (hr : PDkw X io kws fd) : PDkw X io (⟨nm, e, kpos⟩ :: kws) (kCons fv fd) := by
  obtain ⟨_, a1, a2⟩ := ha
  obtain ⟨_, b1, b2⟩ := hr
  exact ⟨_, pk_cons a1 b1, da_cons a2 b2⟩
theorem avr_dat {K : PySem.W.Frag} {G H : Hp} {σ : L2.St} : ∀ {vs : List V} {ds : List DD}, RqA K G vs ds → AVR K G H σ vs (ds.map fun d => AV.val (.dat d)) []
  | _, _, .nil => .nil
  | _, _, .cons a b => by
    have := AVR.val (f1 := []) (.dat a) (avr_dat (H := H) (σ := σ) b) (fun _ z => nomatch z)
    simpa using this
theorem resA_dat (ρ : Rho) : ∀ ds : List DD, resA ρ (ds.map fun d => AV.val (.dat d)) = some (ds.map SV.dat)
  | [] => rfl
  | d :: r => by simp [resA_dat ρ r]
theorem refs_dat : ∀ ds : List DD, refs (ds.map fun d => AV.val (.dat d)) = []
  | [] => rfl
  | d :: r => by simp [refs_dat r]
theorem wb_dat (ρ : Rho) : ∀ (ds : List DD) (ts : List SV), wb ρ (ds.map fun d => AV.val (.dat d)) ts = ρ
  | [], ts => by cases ts <;> rfl
  | d :: r, [] => rfl
  | d :: r, t :: ts => by simp [wb_dat ρ r ts]
end
theorem RqA.pick {K : PySem.W.Frag} {G : Hp} {vs : List V} {ds : List DD} (h : RqA K G vs ds) : ∀ ix : List Nat, RqA K G (ix.filterMap fun i => vs[i]?) (ix.filterMap fun i => ds[i]?)
  | [] => .nil
  | i :: ix => by
    have ih := RqA.pick h ix
    by_cases hi : i < ds.length
    · obtain ⟨u, e1, e2⟩ := h.get (List.getElem?_eq_getElem hi)
      rw [List.filterMap_cons_some e1, List.filterMap_cons_some (List.getElem?_eq_getElem hi)]
      exact .cons e2 ih
    · have e1 : ds[i]? = none := List.getElem?_eq_none (by omega)
      have e2 : vs[i]? = none := List.getElem?_eq_none (by rw [h.length]; omega)
      rw [List.filterMap_cons_none e1, List.filterMap_cons_none e2]
      exact ih
theorem RqA.gP {K : PySem.W.Frag} {G : Hp} {vs zs : List V} {ds es : List DD} {n m : Nat} {ix : List Nat} (h1 : RqA K G vs ds) (h2 : RqA K G zs es) : RqA K G (gP n m ix vs zs) (gP n m ix ds es) := by
  unfold DL.gP
  rw [h1.length, h2.length]
  split
  · exact (h1.append h2).pick ix
  · exact .nil
theorem Vals.pick {vs : List V} {us : List Value} (h : Vals vs us) : ∀ ix : List Nat, Vals (ix.filterMap fun i => vs[i]?) (ix.filterMap fun i => us[i]?)
  | [] => .nil
  | i :: ix => by
    have ih := Vals.pick h ix
    by_cases hi : i < vs.length
    · obtain ⟨u, e1, e2⟩ := h.get (List.getElem?_eq_getElem hi)
      rw [List.filterMap_cons_some e1, List.filterMap_cons_some (List.getElem?_eq_getElem hi)]
      exact .cons e2 ih
    · have e1 : vs[i]? = none := List.getElem?_eq_none (by omega)
      have e2 : us[i]? = none := List.getElem?_eq_none (by rw [← h.length]; omega)
      rw [List.filterMap_cons_none e1, List.filterMap_cons_none e2]
      exact ih
theorem Vals.gP {vs zs : List V} {us ws : List Value} {n m : Nat} {ix : List Nat} (h1 : Vals vs us) (h2 : Vals zs ws) : Vals (gP n m ix vs zs) (gP n m ix us ws) := by
  unfold DL.gP
  rw [h1.length, h2.length]
  split
  · exact Vals.pick (h1.append h2) ix
  · exact .nil
def HsK (P : Program) (w : World) (K : PySem.W.Frag) (mg : Str → Option Value) (base : Heap) (x : Str) (ps : List Str) (k : Nat) (F : Ctr) (ks : List Str) (n : Nat) (ix : List Nat) : Prop :=
  ∃ f fd, mg x = some (.ref f) ∧ PySem.W.keepIn K (.ref f) = true ∧ KBinds K fd ps ks (gP n ks.length ix) (gP n ks.length ix) ∧ FnG P w K mg base CX0 k f fd ps (spD K F)
@[simp] def fCallK (F : Ctr) (n m : Nat) (ix : List Nat) (fa fk : FDs) : FE := fun ρ Q => fa ρ fun ds ρ1 => fk ρ1 fun es ρ2 => F ((gP n m ix ds es).map .dat) fun r _ => Q r ρ2
theorem de_callk {K : PySem.W.Frag} {io : List Nat} {F : Ctr} {fa fk : FDs} {ta tk : TA} {n m : Nat} {ix : List Nat} {E : XK} (h1 : DAd K io ta fa) (h2 : DAd K io tk fk) : DE K io (tCallK (spD K F) (gP n m ix) E ta tk) (fCallK F n m ix fa fk) := by
  intro B G H σ ρ fp Qd Q hB R hf k
  refine h1 B G H σ ρ fp _ _ hB R hf fun ds ρ1 vs G1 H1 fp1 n1 r1 hf => ?_
  refine h2 B G1 H1 σ ρ1 fp1 _ _ hB n1.rp hf fun es ρ2 zs G2 H2 fp2 n2 r2 hF => ?_
  have rq : RqA K G2 (gP n m ix vs zs) (gP n m ix ds es) := (r1.mono n2.st.ex).gP r2
  have n12 := n1.trans n2
  obtain ⟨g, cg, hg, l1, l2, hr⟩ := args_co n2.rp.co (avr_dat (H := H2) (σ := σ) rq) (fun _ z => nomatch z) (by rw [refs_dat]; exact List.nodup_nil) (resA_dat ρ2 _)
  refine ⟨G2, _, g, _, cg, hF, fun r as' v G' H' g' fr' c' st inn ot d1 d2 q => ?_⟩
  have hl : as'.length = ((gP n m ix ds es).map SV.dat).length := by
    have e1 := c'.len
    have e2 := cg.len
    simp at e1 e2 ⊢
    omega
  obtain ⟨fp3, R3, st3, in3, cl⟩ := back_co (fr := []) n2.rp (fun _ z => nomatch z) (fun _ z => nomatch z) (by rw [refs_dat]; exact List.nodup_nil) (resA_dat ρ2 _) hg l2 hr c' st inn hl
  rw [wb_dat] at R3
  have ng : ∀ a, ¬ In g a := fun a ⟨k, m⟩ => by
    rcases hg k a m with ⟨m, _⟩ | ⟨i, e, _⟩
    · cases m
    · simp [List.getElem?_map] at e
  have old : ∀ a, H2 a = none → H a = none ∨ In fp a := fun a z => by
    by_cases q : In fp a
    · exact .inr q
    · exact .inl (n12.st.fresh q z)
  refine k r _ v G' H' fp3 fr' ⟨R3, n12.st.trans st3 fun a z => z.elim (n12.inn a) (fun z => nomatch z), fun a z => ?_⟩ ot (fun a m z => ?_) (fun a m => ?_) q
  · rcases in3 a z with z | z | z
    · exact n12.inn a z
    · exact (old a z).symm
    · cases z
  · rcases cl a z with z | ⟨z, _⟩
    · exact d1 a m z
    · rcases d2 a m with y | y
      · obtain ⟨⟨o, e⟩, _⟩ := n2.rp.co.here z
        rw [y] at e; cases e
      · exact ng a y
  · exact (d2 a m).elim (old a) fun z => (ng a z).elim
section
variable {X : Cx} {CX : CXT} {io : List Nat} {x : Str} {ps ks : List Str} {k n : Nat} {ix : List Nat} {F : Ctr} {e : Expr} {es : List Expr} {fa fk : FDs} {p pos : Pos} {kws : List Keyword} {f : Addr} {fd : FuncData} {sp : Sp} {E : XK} {t tk : TA} {g : List Value → List Value → List Value} {gV : List V → List V → List V}
theorem pe_callGk (F : FnG X.prog X.w X.K X.mg X.base CX k f fd ps sp) (hr : RoomG k X.A) (hg : Gl X x) (hm : X.mg x = some (.ref f)) (hk : PySem.W.keepIn X.K (.ref f) = true) (hb : KBinds X.K fd ps ks g gV) (hx : Passes CX X E)
    (ha : PA X (e :: es) t) (hkw : PK X kws tk) (hall : (backToKw pos (keywordEach kws X.env)).all (·.1.isSome) = true) (hks : (backToKw pos (keywordEach kws X.env)).filterMap (·.1) = ks)
    (hdb : (x == ("__debug__" : Str)) = false) (he : starEach (e :: es) X.env = (false, eval e X.env) :: starEach es X.env)
    (hpl : ((backTo pos (starEach (e :: es) X.env)).any (·.1) || (backToKw pos (keywordEach kws X.env)).any (·.1.isNone)) = false) : PE X (.Call (.Name x p) (e :: es) kws pos) (tCallK sp gV E t tk) := by
  refine ⟨fun pins s σ H Q I h => wpAny_Call_Name_kw (ld_glob I hg hm ?_ hdb)⟩
  refine PySem.W.callWith_KW (h₀ := X.base) I.ok.mod.kin hk hall (thn (ha.run pos pins s σ H _ I h) ?_) hpl he
  rintro us s1 ⟨vs, H1, I1, r, q⟩
  refine thn (hkw.run pos pins s1 σ H1 _ I1 q) ?_
  rintro ws s2 ⟨zs, H2, I2, rz, q2⟩
  refine ⟨I2.kIn, ?_⟩
  rw [hks]
  exact run_fnkG F hr hb hx I2 r rz q2
theorem pe_callGk0 (F : FnG X.prog X.w X.K X.mg X.base CX k f fd ps sp) (hr : RoomG k X.A) (hg : Gl X x) (hm : X.mg x = some (.ref f)) (hk : PySem.W.keepIn X.K (.ref f) = true) (hb : KBinds X.K fd ps ks g gV) (hx : Passes CX X E)
    (hkw : PK X kws tk) (hall : (backToKw pos (keywordEach kws X.env)).all (·.1.isSome) = true) (hks : (backToKw pos (keywordEach kws X.env)).filterMap (·.1) = ks)
    (hdb : (x == ("__debug__" : Str)) = false) (hpl : ((backTo pos (starEach [] X.env)).any (·.1) || (backToKw pos (keywordEach kws X.env)).any (·.1.isNone)) = false) : PE X (.Call (.Name x p) [] kws pos) (tCallK sp gV E tNil tk) := by
  refine ⟨fun pins s σ H Q I h => wpAny_Call_Name_kw (ld_glob I hg hm ?_ hdb)⟩
  refine PySem.W.callWith_KW0 (h₀ := X.base) I.ok.mod.kin hk hall (thn (hkw.run pos pins s σ H _ I h) ?_) hpl
  rintro ws s2 ⟨zs, H2, I2, rz, q2⟩
  refine ⟨I2.kIn, ?_⟩
  rw [hks]
  exact run_fnkG (us := []) F hr hb hx I2 .nil rz q2
theorem e_callk (h : HsK X.prog X.w X.K X.mg X.base x ps k F ks n ix) (hr : RoomG k X.A) (ha : PDpa X io (e :: es) fa) (hkw : PDkw X io kws fk) (hg : Gl X x := by rfl) (hdb : (x == ("__debug__" : Str)) = false := by decide)
    (hall : (backToKw pos (keywordEach kws X.env)).all (·.1.isSome) = true := by rfl) (hks : (backToKw pos (keywordEach kws X.env)).filterMap (·.1) = ks := by rfl) (he : starEach (e :: es) X.env = (false, eval e X.env) :: starEach es X.env := by rfl)
    (hpl : ((backTo pos (starEach (e :: es) X.env)).any (·.1) || (backToKw pos (keywordEach kws X.env)).any (·.1.isNone)) = false := by rfl) : PDe X io (.Call (.Name x p) (e :: es) kws pos) (fCallK F n ks.length ix fa fk) := by
  obtain ⟨f, fd, h1, h2, h3, h4⟩ := h
  obtain ⟨t, a1, a2⟩ := ha
  obtain ⟨tk, b1, b2⟩ := hkw
  exact ⟨_, pe_callGk h4 hr hg h1 h2 h3 pass0 a1 b1 hall hks hdb he hpl, de_callk a2 b2⟩
theorem e_callk0 (h : HsK X.prog X.w X.K X.mg X.base x ps k F ks n ix) (hr : RoomG k X.A) (hkw : PDkw X io kws fk) (hg : Gl X x := by rfl) (hdb : (x == ("__debug__" : Str)) = false := by decide)
    (hall : (backToKw pos (keywordEach kws X.env)).all (·.1.isSome) = true := by rfl) (hks : (backToKw pos (keywordEach kws X.env)).filterMap (·.1) = ks := by rfl)
    (hpl : ((backTo pos (starEach [] X.env)).any (·.1) || (backToKw pos (keywordEach kws X.env)).any (·.1.isNone)) = false := by rfl) : PDe X io (.Call (.Name x p) [] kws pos) (fCallK F n ks.length ix kNil fk) := by
  obtain ⟨f, fd, h1, h2, h3, h4⟩ := h
  obtain ⟨tk, b1, b2⟩ := hkw
  exact ⟨_, pe_callGk0 h4 hr hg h1 h2 h3 pass0 b1 hall hks hdb hpl, de_callk da_nil b2⟩
end
section
variable {P : Program} {w : World} {K : PySem.W.Frag} {mg : Str → Option Value} {base : Heap} {f : Addr} {fd : FuncData} {x qual : Str} {params : Arguments} {body : List Stmt} {scope : Scope} {ps ks : List Str} {k n : Nat} {ix : List Nat} {F : Ctr}
theorem hsK (G : FnG P w K mg base CX0 k f fd ps (spD K F)) (hm : mg x = some (.ref f)) (F0 : FunD K x qual params body scope [] [] f fd) (hn : ps ≠ [])
    (hb : ∀ (kV doc pm : Value) (an : Option Addr) (cdv ct : Value) (us ws : List Value), us.length = n → ws.length = ks.length → bindArgs (PySem.W.fnOf x qual params body scope .none kV doc pm an cdv ct) ⟨us, ks.zip ws⟩ = pure (ps.zip (gP n ks.length ix us ws))) : HsK P w K mg base x ps k F ks n ix := by
  refine ⟨f, fd, hm, F0.kp, ⟨fun s us ws hK hl => ?_, fun r1 r2 => Vals.gP r1 r2⟩, G⟩
  have hlen : us.length = n ∧ ws.length = ks.length := by
    by_cases q : us.length = n ∧ ws.length = ks.length
    · exact q
    · unfold DL.gP at hl
      rw [if_neg q] at hl
      exact absurd (List.length_eq_zero_iff.mp hl.symm) hn
  obtain ⟨oc, od, dV, kV, doc, pm, an, cdv, ct, osl, rfl, lk, hcd, hD, hK⟩ := F0.ex
  rcases hD with ⟨_, rfl⟩ | ⟨e, _⟩
  · exact PySem.BindsTo.of_eq (hb kV doc pm an cdv ct us ws hlen.1 hlen.2)
  · exact absurd rfl e
end
section
variable {X : Cx} {io ks : List Nat}
theorem de_dv {K : PySem.W.Frag} {te : TE} {fe : FE} (h2 : DE K io te fe) : DV K io te (eV fe) := fun B G H σ ρ fp Qd Q hB R hf k => h2 B G H σ ρ fp _ Q hB R hf fun r ρ' v G' H' fp' fr n ot t1 t2 q => by
  obtain ⟨n', rq⟩ := Nxt.sealed R n ot t1 t2
  exact k _ _ _ _ _ _ n' rq q
theorem dv_de {K : PySem.W.Frag} {te : TE} {fv : FV} (h2 : DV K io te fv) : DE K io te (vE fv) := fun B G H σ ρ fp Qd Q hB R hf k => h2 B G H σ ρ fp _ Q hB R hf fun d ρ' v G' H' fp' n rq q => k _ _ _ _ _ _ [] n (.dat rq) (fun _ z => nomatch z) (fun _ z => nomatch z) q
theorem s_lcS {i : Nat} {y : Str} {py spos pos : Pos} {elt tg iter : Expr} {ifs : List Expr} {scope : Scope} {own : List (Str × Nat)} {fi : FI} {fg : FG} {ft : FT} {fe : FE} (hc : X.calm = true) (hN : X.N.Nodup) (hi : PDi X io tg iter fi) (ok : blkC X.N X.env.scope scope own = true)
    (hg : ∀ (s : Shared) (H : Hp) (C : Addr) (cl : List (Str × Addr)) (fp : List Addr), PDg (X.blk s H scope (compEnvC scope cl C X.env) fp) io ks tg fg) (ht : ∀ (s : Shared) (H : Hp) (C : Addr) (cl : List (Str × Addr)) (fp : List Addr), PDts (X.blk s H scope (compEnvC scope cl C X.env) fp) io ifs ft)
    (he : ∀ (s : Shared) (H : Hp) (C : Addr) (cl : List (Str × Addr)) (fp : List Addr), PDe (X.blk s H scope (compEnvC scope cl C X.env) fp) io elt fe) (hy : X.N[i]? = some y := by rfl) (hyl : X.env.scope.names.lookup y = some .local := by rfl)
    (hsw : swapsWith (.ListComp elt [⟨tg, iter, ifs, 0⟩] scope pos) (some (.Name y py)) spos.line X.env = pure true := by exact sw_true rfl rfl rfl (by decide +kernel)) (hk : ∀ k ∈ ks, k ∈ own.map (·.2) := by decide) (hs : ∀ x, foldedSetIterable iter X.env x = pure x := by intro _; rfl) :
    PDs X io (.Assign [.Name y py] (.ListComp elt [⟨tg, iter, ifs, 0⟩] scope pos) spos) (fSet io i (vE (eV (fLc io fi fg ft fe (own.map (·.2)))))) := by
  obtain ⟨wi, i1, i2⟩ := hi
  exact ⟨_, ps_setLc hc hN hy hyl hsw i1 (blkOk_by ok) (fun s H C cl fp => (hg s H C cl fp).can) (fun s H C cl fp => (ht s H C cl fp).can) (fun s H C cl fp => (he s H C cl fp).can) hs, ds_set (dv_de (de_dv (de_lc i2 hk)))⟩
end
/-! a, b, c = x, y, z -/
theorem OTs.three {K : PySem.W.Frag} {G H : Hp} {vs : List V} {t u w : SV} {fr : List Addr} (h : OTs K G H vs [t, u, w] fr) : ∃ x y z f1 f2 f3, vs = [x, y, z] ∧ OT K G H x t f1 ∧ OT K G H y u f2 ∧ OT K G H z w f3 ∧ (∀ a ∈ f1, a ∉ f2) ∧ (∀ a ∈ f1, a ∉ f3) ∧ (∀ a ∈ f2, a ∉ f3) ∧ (∀ a ∈ f1, a ∈ fr) ∧ (∀ a ∈ f2, a ∈ fr) ∧ ∀ a ∈ f3, a ∈ fr := by
  cases h with
  | cons a b d =>
    obtain ⟨y, z, f2, f3, rfl, o2, o3, d23, i2, i3⟩ := b.two
    exact ⟨_, y, z, _, f2, f3, rfl, a, o2, o3, fun x m m' => d x m (i2 x m'), fun x m m' => d x m (i3 x m'), d23, fun x m => List.mem_append_left _ m, fun x m => List.mem_append_right _ (i2 x m), fun x m => List.mem_append_right _ (i3 x m)⟩
@[simp] def fPar3 (io : List Nat) (i j l : Nat) (fs : FSs) : FS := fun D ρ => fs ρ fun ts ρ1 => ∃ t u w, ts = [t, u, w] ∧ i ∉ io ∧ j ∉ io ∧ l ∉ io ∧ D.nx (((ρ1.set i (some t)).set j (some u)).set l (some w))
theorem out_put {ρ : Rho} {fp : Nat → List Addr} {fr f2 : List Addr} {i : Nat} (h : ∀ a ∈ f2, ¬ In fp a) (d : ∀ a ∈ fr, a ∉ f2) : ∀ a ∈ f2, ¬ In (fun j => if j = i then (if i < ρ.length then fr else []) else fp j) a := fun a m ⟨l, z⟩ => by
  by_cases e : l = i
  · simp only [if_pos e] at z
    by_cases hl : i < ρ.length
    · rw [if_pos hl] at z; exact d a z m
    · rw [if_neg hl] at z; cases z
  · simp only [if_neg e] at z
    exact h a m ⟨l, z⟩
theorem s_par3 {X : Cx} {io : List Nat} {i j l : Nat} {x y z : Str} {a b c : Expr} {fs : FSs} {px py pz pt pos : Pos} {kt k2 : Nat} {pt2 : Pos} (hc : X.calm = true) (hN : X.N.Nodup) (h : PDs' X io [a, b, c] fs) (hi : X.N[i]? = some x := by rfl) (hj : X.N[j]? = some y := by rfl) (hl : X.N[l]? = some z := by rfl) (hij : i ≠ j := by decide) (hil : i ≠ l := by decide) (hjl : j ≠ l := by decide)
    (hx : X.env.scope.names.lookup x = some .local := by rfl) (hy : X.env.scope.names.lookup y = some .local := by rfl) (hz : X.env.scope.names.lookup z = some .local := by rfl)
    (hw : swappedStores [.Tuple [.Name x px, .Name y py, .Name z pz] kt pt] (.Tuple [a, b, c] k2 pt2) X.env = pure (some [x, y, z]) := by rfl)
    (hs : swapsWithSole [.Tuple [.Name x px, .Name y py, .Name z pz] kt pt] (.Tuple [a, b, c] k2 pt2) pos.line X.env = pure false := by rfl) :
    PDs X io (.Assign [.Tuple [.Name x px, .Name y py, .Name z pz] kt pt] (.Tuple [a, b, c] k2 pt2) pos) (fPar3 io i j l fs) := by
  obtain ⟨_, a1, a2⟩ := h
  refine ⟨_, ps_par3 hc hN hi hj hl hij hil hjl hx hy hz a1 hw hs, fun B G H σ ρ fp Dd Dh hB R hf s => ?_⟩
  refine a2 B G H σ ρ fp _ _ hB R hf fun ts ρ1 vs G1 H1 fp1 fr n os t1 t2 ⟨t, u, w, et, hi', hj', hl', q⟩ => ?_
  subst et
  obtain ⟨v1, v2, v3, f1, f2, f3, ev, o1, o2, o3, d12, d13, d23, in1, in2, in3⟩ := os.three
  have hb := R.base t2
  have R1 := n.rp.put (i := i) (by rw [hB]; exact hi') o1 (fun a m => t1 a (in1 a m)) (fun a m => hb a (in1 a m))
  have n2 := out_put (ρ := ρ1) (i := i) (fun a m => t1 a (in2 a m)) d12
  have n3 := out_put (ρ := ρ1) (i := i) (fun a m => t1 a (in3 a m)) d13
  have R2 := R1.put (i := j) (by rw [hB]; exact hj') o2 n2 (fun a m => hb a (in2 a m))
  have R3 := R2.put (i := l) (by rw [hB]; exact hl') o3 (out_put n3 d23) (fun a m => hb a (in3 a m))
  exact ⟨v1, v2, v3, ev, s.nx _ _ _ _ _ R3 q⟩
/-! a list or a tuple is walked -/
@[simp] def itD : DD → Option (List DD)
  | .lst ds => some ds
  | .tup ds => some ds
  | .at_ _ (.lst ds) => some ds
  | _ => none
@[simp] def iLT (fv : FV) : FI := fun ρ Q => fv ρ fun d ρ1 => ∃ ds, itD d = some ds ∧ Q ds ρ1
def iEither (K : PySem.W.Frag) (te : TE) : TI := fun σ H R => te σ H fun x H1 => (∃ a, x = .ref a ∧ (∃ xs, SqL K H1 a xs) ∧ R (Itl K a) H1) ∨ ∃ a, x = .ref a ∧ (∃ xs, SqT K H1 a xs) ∧ R (Itt K a) H1
theorem pi_either {X : Cx} {tg e : Expr} {te : TE} (he : PE X e te) : PI X tg e (iEither X.K te) := ⟨fun pins s σ H R I h => thn (he.run pins s σ H _ I h) fun v s1 ⟨x, H1, J, rx, q⟩ => by
  have own : ∀ b ∈ [s1.heap.objs.size], FpOk X pins H1 b := fun b m => by
    cases (List.mem_singleton.mp m)
    exact J.fpOk (Nat.le_refl _) (J.hok.fresh (Nat.le_refl _))
  rcases q with ⟨a, rfl, ⟨xs, hx⟩, r⟩ | ⟨a, rfl, ⟨xs, hx⟩, r⟩
  · cases rx
    obtain ⟨its, _, p, _⟩ := J.list hx
    exact wpAny_pyIter_list p.isList ⟨_, [_], _, _, H1, rfl, J.kept (t' := s1.toks) (fun b o z => Heap.get?_push_of_some _ z), turn_list a _, ⟨_, Heap.get?_push_size _ rfl, rfl, rfl⟩, own, r⟩
  · cases rx
    obtain ⟨its, _, p, _⟩ := J.tuple hx
    exact wpAny_pyIter_tuple (show s1.heap.IsTuple a its.toArray from p) ⟨_, [_], _, _, H1, rfl, J.kept (t' := s1.toks) (fun b o z => Heap.get?_push_of_some _ z), turn_tuple a _, ⟨_, Heap.get?_push_size _ rfl, rfl, rfl⟩, own, r⟩⟩
theorem i_lt {X : Cx} {io : List Nat} {tg e : Expr} {fv : FV} (h : PDv X io e fv) : PDi X io tg e (iLT fv) := by
  obtain ⟨te, a1, a2⟩ := h
  refine ⟨_, pi_either a1, fun B G H σ ρ fp Qd Rr hB R hf k => ?_⟩
  refine a2 B G H σ ρ fp _ _ hB R hf fun d ρ1 v G1 H1 fp1 n r ⟨ds, ed, q⟩ => ?_
  have lst : ∀ {ds}, Rq X.K G1 v (.lst ds) → Qd ds ρ1 → ∃ a, v = .ref a ∧ (∃ xs, SqL X.K H1 a xs) ∧ Rr (Itl X.K a) H1 := fun {ds} r q => by
    obtain ⟨p, xs, ev, h, rs⟩ := r.lst_inv
    exact ⟨p, ev, ⟨xs, .inl (n.rp.co.sub.rd h)⟩, k _ _ _ _ _ _ n (dj_list h rs) q⟩
  cases d with
  | lst l => cases ed; exact .inl (lst r q)
  | tup l =>
    cases ed
    obtain ⟨p, xs, ev, h, rs⟩ := r.tup_inv
    exact .inr ⟨p, ev, ⟨xs, n.rp.co.sub.t h⟩, k _ _ _ _ _ _ n (dj_tup h rs) q⟩
  | at_ u l =>
    cases l with
    | lst l =>
      cases ed
      cases r with
      | at_ r => exact .inl (lst r q)
    | _ => cases ed
  | _ => cases ed
/-- a halt between two statements -/
theorem cut {f g : FS} {D : DEnds} {ρ : Rho} (M : Rho → Prop) (hM : ∀ ρ, M ρ → g D ρ) (h : ∀ g' : Rho → Prop, (∀ ρ, M ρ → g' ρ) → f { D with nx := g' } ρ) : fSeq f g D ρ := h (g D) hM
/-! == of strs, whatever their signs -/
@[simp] def oEqS : Op2 := fun d e P => ∃ x y, d = .str x ∧ e = .str y ∧ P (.bl (decide (x = y)))
@[simp] def oNeS : Op2 := fun d e P => ∃ x y, d = .str x ∧ e = .str y ∧ P (.bl (!decide (x = y)))
theorem sc_eqS {K : PySem.W.Frag} : ScR K rEq oEqS := fun H x y d e P Q hx hy h k => by
  obtain ⟨a, b, rfl, rfl, p⟩ := h
  cases hx.str_inv
  cases hy.str_inv
  refine ⟨rfl, ?_⟩
  have : decide (V.str a = V.str b) = decide (a = b) := by simp
  rw [this]
  exact k _ _ p (.bl _)
theorem sc_neS {K : PySem.W.Frag} : ScR K rNe oNeS := fun H x y d e P Q hx hy h k => by
  obtain ⟨a, b, rfl, rfl, p⟩ := h
  cases hx.str_inv
  cases hy.str_inv
  refine ⟨rfl, ?_⟩
  have : decide (V.str a = V.str b) = decide (a = b) := by simp
  rw [this]
  exact k _ _ p (.bl _)
section
variable {X : Cx} {io : List Nat} {a b : Expr} {pos : Pos} {fa fb : FO}
theorem p_eqS (ha : PDo X io a fa) (hb : PDo X io b fb) : PDv X io (.Compare a [.Eq] [b] pos) (fBin oEqS fa fb) := p_cmp L2.op_eq sc_eqS (nomark _) ha hb
theorem p_neS (ha : PDo X io a fa) (hb : PDo X io b fb) : PDv X io (.Compare a [.NotEq] [b] pos) (fBin oNeS fa fb) := p_cmp L2.op_ne sc_neS (nomark _) ha hb
theorem q_eqS (ha : PDo X io a fa) (hb : PDo X io b fb) : PDt X io (.Compare a [.Eq] [b] pos) (fTst (fBin oEqS fa fb)) := t_cmp L2.op_eq sc_eqS (nomark _) ha hb
theorem q_neS (ha : PDo X io a fa) (hb : PDo X io b fb) : PDt X io (.Compare a [.NotEq] [b] pos) (fTst (fBin oNeS fa fb)) := t_cmp L2.op_ne sc_neS (nomark _) ha hb
end
section
variable {X : Cx} {io : List Nat} {pos : Pos}
theorem c_list (hm : X.mg "list" = none) (hg : Gl X "list" := by rfl) : PDv X io (.Name "list" pos) (fC (.opq (.ty "list"))) := c_blt (v := .ty "list") (u := .type "list") hm (by decide +kernel) rfl hg
theorem c_tuple (hm : X.mg "tuple" = none) (hg : Gl X "tuple" := by rfl) : PDv X io (.Name "tuple" pos) (fC (.opq (.ty "tuple"))) := c_blt (v := .ty "tuple") (u := .type "tuple") hm (by decide +kernel) rfl hg
theorem c_strT (hm : X.mg "str" = none) (hg : Gl X "str" := by rfl) : PDv X io (.Name "str" pos) (fC (.opq (.ty "str"))) := c_blt (v := .ty "str") (u := .type "str") hm (by decide +kernel) rfl hg
end
end DL

namespace DL
open PySem PySem.Spec PyProof.Rows L2
/-! ### products -/
def bump (f : List Int) (k : Nat) (c : Int) : List Int := f.set k (f.getD k 0 + c)
def rowP (a : Int) : Nat → List Int → List Int → List Int
  | _, [], f => f
  | k, b :: m, f => rowP a (k + 1) m (bump f k (a * b))
def mulG (m : List Int) : Nat → List Int → List Int → List Int
  | _, [], f => f
  | k, a :: l, f => mulG m (k + 1) l (rowP a k m f)
def mulP (l m : List Int) : List Int := mulG m 0 l (List.replicate (l.length + m.length - 1) 0)
theorem bump_len (f : List Int) (k : Nat) (c : Int) : (bump f k c).length = f.length := by simp [bump]
theorem rowP_len (a : Int) : ∀ (k : Nat) (m f : List Int), (rowP a k m f).length = f.length
  | _, [], _ => rfl
  | k, b :: m, f => by rw [rowP, rowP_len, bump_len]
theorem mulG_len (m : List Int) : ∀ (k : Nat) (l f : List Int), (mulG m k l f).length = f.length
  | _, [], _ => rfl
  | k, a :: l, f => by rw [mulG, mulG_len, rowP_len]
theorem bump_get (f : List Int) (k j : Nat) (c : Int) (h : k < f.length) : (bump f k c).getD j 0 = f.getD j 0 + if j = k then c else 0 := by
  unfold bump
  simp only [List.getD_eq_getElem?_getD]
  by_cases e : j = k
  · subst e
    rw [List.getElem?_set_self h, if_pos rfl]
    simp
  · rw [List.getElem?_set_ne (Ne.symm e), if_neg e]
    omega
theorem rowP_hi (a : Int) : ∀ (k : Nat) (m f : List Int) (j : Nat), k + m.length ≤ f.length → k + m.length ≤ j → (rowP a k m f).getD j 0 = f.getD j 0
  | _, [], _, _, _, _ => rfl
  | k, b :: m, f, j, h, hj => by
    simp only [List.length_cons] at h hj
    rw [rowP, rowP_hi a (k + 1) m _ j (by rw [bump_len]; omega) (by omega), bump_get _ _ _ _ (by omega), if_neg (by omega)]
    omega
theorem rowP_top (a : Int) : ∀ (k : Nat) (m f : List Int) (h : m ≠ []), k + m.length ≤ f.length → (rowP a k m f).getD (k + m.length - 1) 0 = f.getD (k + m.length - 1) 0 + a * m.getLast h
  | _, [], _, h, _ => absurd rfl h
  | k, [b], f, _, hl => by
    simp only [List.length_cons, List.length_nil] at hl ⊢
    rw [rowP, rowP, bump_get _ _ _ _ (by omega), if_pos (by omega)]
    simp
  | k, b :: c :: m, f, hh, hl => by
    have ih := rowP_top a (k + 1) (c :: m) (bump f k (a * b)) (by simp) (by rw [bump_len]; simp only [List.length_cons] at hl ⊢; omega)
    simp only [List.length_cons] at ih hl ⊢
    have e : k + 1 + (m.length + 1) - 1 = k + (m.length + 1 + 1) - 1 := by omega
    rw [e] at ih
    rw [rowP, ih, bump_get _ _ _ _ (by omega), if_neg (by omega), show (b :: c :: m).getLast hh = (c :: m).getLast (by simp) from rfl]
    omega
theorem mulG_top (m : List Int) (hm : m ≠ []) : ∀ (k : Nat) (l f : List Int) (h : l ≠ []), k + l.length + m.length - 1 ≤ f.length → (mulG m k l f).getD (k + l.length + m.length - 2) 0 = f.getD (k + l.length + m.length - 2) 0 + l.getLast h * m.getLast hm
  | _, [], _, h, _ => absurd rfl h
  | k, [a], f, _, hl => by
    have hm1 : 0 < m.length := List.length_pos_iff.mpr hm
    simp only [List.length_cons, List.length_nil] at hl ⊢
    have := rowP_top a k m f hm (by omega)
    have e : k + (0 + 1) + m.length - 2 = k + m.length - 1 := by omega
    rw [mulG, mulG, e, this]
    simp
  | k, a :: b :: l, f, hh, hl => by
    have hm1 : 0 < m.length := List.length_pos_iff.mpr hm
    have ih := mulG_top m hm (k + 1) (b :: l) (rowP a k m f) (by simp) (by rw [rowP_len]; simp only [List.length_cons] at hl ⊢; omega)
    simp only [List.length_cons] at ih hl ⊢
    have e : k + 1 + (l.length + 1) + m.length - 2 = k + (l.length + 1 + 1) + m.length - 2 := by omega
    rw [e] at ih
    rw [mulG, ih, rowP_hi a k m f _ (by omega) (by omega), show (a :: b :: l).getLast hh = (b :: l).getLast (by simp) from rfl]
theorem mulP_len (l m : List Int) : (mulP l m).length = l.length + m.length - 1 := by unfold mulP; rw [mulG_len, List.length_replicate]
theorem mulP_last {l m : List Int} (hl : l ≠ []) (hm : m ≠ []) (zl : l.getLast? ≠ some 0) (zm : m.getLast? ≠ some 0) : (mulP l m).getLast? ≠ some 0 := by
  have h1 : 0 < l.length := List.length_pos_iff.mpr hl
  have h2 : 0 < m.length := List.length_pos_iff.mpr hm
  have t := mulG_top m hm 0 l (List.replicate (l.length + m.length - 1) 0) hl (by simp)
  rw [List.getLast?_eq_some_getLast hl] at zl
  rw [List.getLast?_eq_some_getLast hm] at zm
  have n1 : l.getLast hl ≠ 0 := fun e => zl (by rw [e])
  have n2 : m.getLast hm ≠ 0 := fun e => zm (by rw [e])
  intro e
  rw [List.getLast?_eq_getElem?, mulP_len] at e
  have e2 : (mulP l m).getD (0 + l.length + m.length - 2) 0 = 0 := by
    rw [List.getD_eq_getElem?_getD, show 0 + l.length + m.length - 2 = l.length + m.length - 1 - 1 by omega, e]
    rfl
  unfold mulP at e2
  rw [t] at e2
  have e3 : (List.replicate (l.length + m.length - 1) (0 : Int)).getD (0 + l.length + m.length - 2) 0 = 0 := by
    rw [List.getD_eq_getElem?_getD, List.getElem?_replicate]
    split <;> rfl
  rw [e3, Int.zero_add] at e2
  exact (Int.mul_ne_zero n1 n2) e2
theorem trim_zeros : ∀ n, trim (List.replicate n 0) = []
  | 0 => rfl
  | n + 1 => by rw [List.replicate_succ, trim, trim_zeros n]; simp
theorem rowP_nil (a : Int) (k : Nat) (f : List Int) : rowP a k [] f = f := rfl
theorem mulG_nil : ∀ (k : Nat) (l f : List Int), mulG [] k l f = f
  | _, [], _ => rfl
  | k, a :: l, f => by rw [mulG, rowP_nil, mulG_nil]
theorem mulP_trim {l m : List Int} (zl : l.getLast? ≠ some 0) (zm : m.getLast? ≠ some 0) : trim (mulP l m) = if l = [] ∨ m = [] then [] else mulP l m := by
  by_cases hl : l = []
  · subst hl
    rw [if_pos (.inl rfl)]
    exact trim_zeros _
  · by_cases hm : m = []
    · subst hm
      rw [if_pos (.inr rfl)]
      unfold mulP
      rw [mulG_nil]
      exact trim_zeros _
    · rw [if_neg (by simp [hl, hm])]
      exact trim_eq _ (mulP_last hl hm zl zm)
/-! sizes -/
def Bd (B : Nat) (l : List Int) : Prop := ∀ c ∈ l, c.natAbs ≤ B
theorem Bd.mono {B C : Nat} {l : List Int} (h : Bd B l) (le : B ≤ C) : Bd C l := fun c m => Nat.le_trans (h c m) le
theorem bump_each {B C : Nat} {f : List Int} {k : Nat} {c : Int} (hc : c.natAbs ≤ C) (j : Nat) (h : (f.getD j 0).natAbs ≤ B) : ((bump f k c).getD j 0).natAbs ≤ if j = k then B + C else B := by
  by_cases hk : k < f.length
  · rw [bump_get _ _ _ _ hk]
    split <;> omega
  · have : bump f k c = f := by unfold bump; rw [List.set_eq_of_length_le (by omega)]
    rw [this]
    split <;> omega
theorem rowP_each {C : Nat} (a : Int) : ∀ (k : Nat) (m f : List Int), (∀ b ∈ m, (a * b).natAbs ≤ C) → ∀ (j B : Nat), (f.getD j 0).natAbs ≤ B → ((rowP a k m f).getD j 0).natAbs ≤ if j < k then B else B + C
  | _, [], f, _, j, B, h => by rw [rowP]; split <;> omega
  | k, b :: m, f, hm, j, B, h => by
    rw [rowP]
    have h1 := bump_each (k := k) (hm b List.mem_cons_self) j h
    have h2 := rowP_each a (k + 1) m (bump f k (a * b)) (fun x z => hm x (List.mem_cons_of_mem _ z)) j _ h1
    by_cases e : j = k
    · subst e
      rw [if_pos rfl, if_pos (by omega)] at h2
      rw [if_neg (by omega)]; exact h2
    · rw [if_neg e] at h2
      by_cases l : j < k
      · rw [if_pos l]; rw [if_pos (by omega)] at h2; exact h2
      · rw [if_neg l]; rw [if_neg (by omega)] at h2; exact h2
theorem mulG_each {C : Nat} (m : List Int) : ∀ (k : Nat) (l f : List Int), (∀ a ∈ l, ∀ b ∈ m, (a * b).natAbs ≤ C) → ∀ (j B : Nat), (f.getD j 0).natAbs ≤ B → ((mulG m k l f).getD j 0).natAbs ≤ B + l.length * C
  | _, [], f, _, j, B, h => by rw [mulG]; omega
  | k, a :: l, f, hm, j, B, h => by
    rw [mulG]
    have h1 := rowP_each (C := C) a k m f (fun b z => hm a List.mem_cons_self b z) j B h
    have h1' : ((rowP a k m f).getD j 0).natAbs ≤ B + C := by split at h1 <;> omega
    have h2 := mulG_each m (k + 1) l _ (fun x z => hm x (List.mem_cons_of_mem _ z)) j _ h1'
    simp only [List.length_cons, Nat.succ_mul]
    omega
theorem getD_mem {l : List Int} {c : Int} (h : c ∈ l) : ∃ j : Nat, l.getD j 0 = c := by
  obtain ⟨j, hj, e⟩ := List.getElem_of_mem h
  exact ⟨j, by rw [List.getD_eq_getElem?_getD, List.getElem?_eq_getElem hj]; exact e⟩
theorem mulP_bd {B C : Nat} {l m : List Int} (hl : Bd B l) (hm : Bd C m) : Bd (l.length * (B * C)) (mulP l m) := by
  intro c hc
  obtain ⟨j, rfl⟩ := getD_mem hc
  have := mulG_each (C := B * C) m 0 l (List.replicate (l.length + m.length - 1) 0) (fun a ha b hb => by rw [Int.natAbs_mul]; exact Nat.mul_le_mul (hl a ha) (hm b hb)) j 0 (by
    rw [List.getD_eq_getElem?_getD, List.getElem?_replicate]
    split <;> simp)
  rw [Nat.zero_add] at this
  exact this
theorem addP_bd {B C : Nat} : ∀ {l m : List Int}, Bd B l → Bd C m → Bd (B + C) (addP l m)
  | [], m, _, h => fun c z => by rw [addP] at z; have := h c z; omega
  | a :: l, [], h, _ => fun c z => by rw [addP] at z; have := h c z; omega; simp
  | a :: l, b :: m, h1, h2 => fun c z => by
    rw [addP] at z
    rcases List.mem_cons.mp z with e | z
    · have := h1 a List.mem_cons_self
      have := h2 b List.mem_cons_self
      subst e
      omega
    · exact addP_bd (fun x y => h1 x (List.mem_cons_of_mem _ y)) (fun x y => h2 x (List.mem_cons_of_mem _ y)) c z
theorem trim_sub : ∀ {l : List Int} {c : Int}, c ∈ trim l → c ∈ l
  | [], c, h => by cases h
  | a :: l, c, h => by
    rw [trim] at h
    split at h
    · split at h
      · cases h
      · have : c = a := by simpa using h
        rw [this]; exact List.mem_cons_self
    · rename_i t _
      rcases List.mem_cons.mp h with e | h
      · rw [e]; exact List.mem_cons_self
      · exact List.mem_cons_of_mem _ (trim_sub h)
theorem trim_le : ∀ l : List Int, (trim l).length ≤ l.length
  | [] => Nat.le_refl _
  | a :: l => by
    have ih := trim_le l
    rw [trim]
    split
    · split <;> simp
    · simp only [List.length_cons]; omega
theorem trim_bd {B : Nat} {l : List Int} (h : Bd B l) : Bd B (trim l) := fun c m => h c (trim_sub m)
theorem Bd.sm {B k : Nat} {l : List Int} (h : Bd B l) (hk : B < 2 ^ k) : ∀ c ∈ l, Sm k c := fun c m => Nat.lt_of_le_of_lt (h c m) hk
/-! ### what repr shows -/
structure Rz (n D : Nat) (d : DD) : Prop where
  p : d.pure = true
  s : shw d.py = true
  l : (shD d).length ≤ n
  e : d.py.depth ≤ D
theorem Rz.ok {n D : Nat} {d : DD} (h : Rz n D d) (hn : n ≤ 2 ^ 24) (hD : D ≤ 60) : okR d := ⟨h.p, h.s, Nat.le_trans h.l hn, Nat.le_trans h.e hD⟩
theorem Rz.mono {n D n' D' : Nat} {d : DD} (h : Rz n D d) (hn : n ≤ n') (hD : D ≤ D') : Rz n' D' d := ⟨h.p, h.s, Nat.le_trans h.l hn, Nat.le_trans h.e hD⟩
theorem Rz.int {i : Int} (h : Sm 1920 i) : Rz 1921 0 (.int i) := by
  have hl := h.log (by decide)
  exact ⟨rfl, by simp [DD.py, shw]; omega, PyProof.Rows.int_text_len_1921 hl, Nat.le_refl _⟩
theorem Rz.big {i : Int} (h : Sm 12900 i) : Rz 12901 0 (.int i) := by
  have hl := h.log (by decide)
  exact ⟨rfl, by simp [DD.py, shw, hl], big_text hl, Nat.le_refl _⟩
theorem Rz.bl {b : Bool} : Rz 5 0 (.bl b) := ⟨rfl, by simp [DD.py, shw], by cases b <;> decide, Nat.le_refl _⟩
theorem Rz.non : Rz 4 0 .non := ⟨rfl, by simp [DD.py, shw], by decide, Nat.le_refl _⟩
theorem Rz.all {n D : Nat} : ∀ {ds : List DD}, (∀ d ∈ ds, Rz n D d) → DD.pures ds = true ∧ shws (DD.pys ds) = true ∧ ((PyData.shownAll (DD.pys ds)).map (·.length)).sum ≤ ds.length * n ∧ (PyData.shownAll (DD.pys ds)).length = ds.length ∧ PyData.depthAll (DD.pys ds) ≤ D
  | [], _ => by simp [DD.pures, DD.pys, shws, PyData.shownAll, PyData.depthAll]
  | d :: r, h => by
    have h1 := h d List.mem_cons_self
    obtain ⟨a, b, c, e, f⟩ := Rz.all fun x m => h x (List.mem_cons_of_mem _ m)
    have l1 : (PyData.shown d.py).length ≤ n := h1.l
    have e1 := h1.e
    refine ⟨by simp [DD.pures, h1.p, a], by simp [DD.pys, shws, h1.s, b], ?_, by simp [DD.pys, PyData.shownAll, e], by simp only [DD.pys, PyData.depthAll]; omega⟩
    simp only [DD.pys, PyData.shownAll, List.map_cons, List.sum_cons, List.length_cons, Nat.succ_mul]
    omega
theorem Rz.lst {n D : Nat} {ds : List DD} (h : ∀ d ∈ ds, Rz n D d) : Rz (ds.length * (n + 2) + 3) (D + 1) (.lst ds) := by
  obtain ⟨a, b, c, e, f⟩ := Rz.all h
  refine ⟨a, b, ?_, by show PyData.depthAll _ + 1 ≤ _; omega⟩
  have := listText_len_le (PyData.shownAll (DD.pys ds))
  rw [e] at this
  rw [Nat.mul_add]
  show (listText (PyData.shownAll (DD.pys ds))).length ≤ _
  omega
theorem Rz.tup {n D : Nat} {ds : List DD} (h : ∀ d ∈ ds, Rz n D d) : Rz (ds.length * (n + 2) + 3) (D + 1) (.tup ds) := by
  obtain ⟨a, b, c, e, f⟩ := Rz.all h
  refine ⟨a, b, ?_, by show PyData.depthAll _ + 1 ≤ _; omega⟩
  have := tupleText_len_le (PyData.shownAll (DD.pys ds))
  rw [e] at this
  rw [Nat.mul_add]
  show (tupleText (PyData.shownAll (DD.pys ds))).length ≤ _
  omega
theorem Rz.ints {l : List Int} (h : ∀ c ∈ l, Sm 1920 c) : Rz (l.length * 1923 + 3) 1 (dI l) := by
  have := Rz.lst (n := 1921) (D := 0) (ds := l.map .int) fun d m => by
    obtain ⟨c, hc, rfl⟩ := List.mem_map.mp m
    exact .int (h c hc)
  simpa [dI] using this
theorem Rz.rat {q : Rat} (h : Qb 1920 q) : Rz 3849 1 (rT q) := by
  have := Rz.tup (n := 1921) (D := 0) (ds := [.int q.num, .int q.den]) fun d m => by
    rcases List.mem_cons.mp m with rfl | m
    · exact .int h.n
    · have : d = .int q.den := by simpa using m
      subst this
      exact .int h.d
  simpa [rT] using this
end DL

namespace DL
open PySem PySem.Spec PyProof.Rows L2
/-! ### a polynomial at a fraction -/
def hA (p q : Int) : List Int → Int × Int
  | [] => (0, 1)
  | c :: l => ((hA p q l).1 * p + c * (hA p q l).2, (hA p q l).2 * q)
theorem hA_pow (p q : Int) : ∀ l, (hA p q l).2 = q ^ l.length
  | [] => by simp [hA]
  | c :: l => by rw [hA, hA_pow p q l, List.length_cons, Int.pow_succ]
theorem rat_dn (x : Rat) : (x.den : Rat) * x = (x.num : Rat) := by
  have h := Rat.num_divInt_den x
  rw [Rat.divInt_eq_div] at h
  have dn : ((x.den : Int) : Rat) ≠ 0 := by
    have := x.den_nz
    exact_mod_cast this
  have e3 : (((x.den : Int)) : Rat) = (x.den : Rat) := rfl
  rw [e3] at h dn
  have h2 : (x.num : Rat) = (x.num : Rat) / (x.den : Rat) * (x.den : Rat) := by grind
  rw [h, Rat.mul_comm] at h2
  exact h2.symm
theorem hA_eval (x : Rat) : ∀ l, ((hA x.num x.den l).1 : Rat) * (x.den : Rat) = ((hA x.num x.den l).2 : Rat) * evalR l x
  | [] => by simp [hA, evalR]
  | c :: l => by
    have ih := hA_eval x l
    have hx := rat_dn x
    simp only [hA, evalR]
    rw [Rat.intCast_add, Rat.intCast_mul, Rat.intCast_mul, Rat.intCast_mul]
    have e : ((x.den : Int) : Rat) = (x.den : Rat) := rfl
    rw [e]
    generalize ((hA x.num x.den l).1 : Rat) = f at *
    generalize ((hA x.num x.den l).2 : Rat) = w at *
    generalize evalR l x = v at *
    generalize (x.den : Rat) = d at *
    rw [← hx]
    grind
theorem hA_bd {A B : Nat} {x : Rat} (hx : Qb B x) : ∀ {l : List Int}, (∀ c ∈ l, Sm A c) → Sm ((A + B + 1) * l.length) (hA x.num x.den l).1 ∧ Sm (B * l.length + 1) (hA x.num x.den l).2
  | [], _ => by
    refine ⟨?_, ?_⟩
    · show Sm _ 0
      unfold Sm; simp
    · show Sm _ 1
      unfold Sm; simp
  | c :: l, h => by
    obtain ⟨h1, h2⟩ := hA_bd hx fun y m => h y (List.mem_cons_of_mem _ m)
    have hc := h c List.mem_cons_self
    refine ⟨?_, ?_⟩
    · refine ((h1.mul hx.n).add (hc.mul h2)).mono ?_
      simp only [List.length_cons, Nat.mul_succ]
      have : B * l.length ≤ (A + B + 1) * l.length := Nat.mul_le_mul_right _ (by omega)
      have b1 : 1 ≤ B := by
        cases B with
        | zero => have := hx.d; have := x.den_pos; unfold Sm at *; simp at *; omega
        | succ n => omega
      have : max ((A + B + 1) * l.length + B) (A + (B * l.length + 1)) ≤ (A + B + 1) * l.length + (A + B) := Nat.max_le.mpr ⟨by omega, by omega⟩
      omega
    · refine (h2.mul hx.d).mono ?_
      simp only [List.length_cons, Nat.mul_succ]
      omega
def partsP (l : List Int) (x : Rat) : Int × Int := if l = [] then (0, 1) else ((hA x.num x.den l).1, (hA x.num x.den l).2.fdiv x.den)
theorem partsP_den (l : List Int) (x : Rat) : (partsP l x).2 = (x.den : Int) ^ (l.length - 1) := by
  unfold partsP
  split
  · rename_i h; subst h; rfl
  · rename_i h
    obtain ⟨c, r, rfl⟩ := List.exists_cons_of_ne_nil h
    show (hA x.num x.den (c :: r)).2.fdiv x.den = _
    rw [hA_pow, List.length_cons, Int.pow_succ, Int.mul_fdiv_cancel _ (rden x)]
    rfl
theorem partsP_ne (l : List Int) (x : Rat) : (partsP l x).2 ≠ 0 := by rw [partsP_den]; exact Int.pow_ne_zero (rden x)
theorem partsP_eval (l : List Int) (x : Rat) : Rat.divInt (partsP l x).1 (partsP l x).2 = evalR l x := by
  by_cases h : l = []
  · subst h; simp [partsP, evalR]
  · have e := hA_eval x l
    have n := partsP_ne l x
    obtain ⟨c, r, rfl⟩ := List.exists_cons_of_ne_nil h
    have e1 : (partsP (c :: r) x).1 = (hA x.num x.den (c :: r)).1 := by simp [partsP]
    have e2 : (hA x.num x.den (c :: r)).2 = (partsP (c :: r) x).2 * x.den := by rw [partsP_den, hA_pow, List.length_cons, Int.pow_succ]; rfl
    rw [← e1, e2, Rat.intCast_mul] at e
    rw [Rat.divInt_eq_div]
    have dn : (x.den : Rat) ≠ 0 := by
      have := x.den_nz
      exact_mod_cast this
    have wn : ((partsP (c :: r) x).2 : Rat) ≠ 0 := by exact_mod_cast n
    have e3 : (((x.den : Int)) : Rat) = (x.den : Rat) := rfl
    rw [e3] at e
    generalize ((partsP (c :: r) x).1 : Rat) = f at *
    generalize ((partsP (c :: r) x).2 : Rat) = w at *
    generalize evalR (c :: r) x = v at *
    generalize (x.den : Rat) = d at *
    grind
theorem evalR_snoc (c : Int) (x : Rat) : ∀ l, evalR (l ++ [c]) x = evalR l x + (c : Rat) * x ^ l.length
  | [] => by simp [evalR, Rat.mul_zero, Rat.add_zero, Rat.zero_add]
  | a :: l => by
    rw [List.cons_append, evalR, evalR_snoc c x l, evalR, List.length_cons, Rat.pow_succ]
    grind
def addG : DD → SV
  | .tup [.int a, .int b] => .dat (.int (a + b))
  | _ => .dat .non
@[simp] theorem addG_two {a b : Int} : addG (.tup [.int a, .int b]) = .dat (.int (a + b)) := rfl
theorem zip_addI : ∀ (l m : List Int), (List.map addG ((l.zip m).map fun p => DD.tup [.int p.1, .int p.2])) = (List.zipWith (· + ·) l m).map fun i => SV.dat (.int i)
  | [], _ => rfl
  | _ :: _, [] => rfl
  | a :: l, b :: m => by
    have ih := zip_addI l m
    simp only [List.zip_cons_cons, List.map_cons, List.zipWith_cons_cons, ih, addG_two]
theorem ints_inj : ∀ {l m : List Int}, l.map DD.int = m.map DD.int → l = m
  | [], [], _ => rfl
  | [], _ :: _, h => by cases h
  | _ :: _, [], h => by cases h
  | a :: l, b :: m, h => by
    simp only [List.map_cons, List.cons.injEq, DD.int.injEq] at h
    rw [h.1, ints_inj h.2]
@[simp] theorem dI_inj {l m : List Int} : dI l = dI m ↔ l = m := ⟨fun h => ints_inj (by simpa [dI] using h), fun h => by rw [h]⟩
@[simp] theorem rT_inj {x y : Rat} : rT x = rT y ↔ x = y := by
  constructor
  · intro h
    have h' : x.num = y.num ∧ (x.den : Int) = y.den := by simpa [rT] using h
    exact Rat.ext h'.1 (by omega)
  · rintro rfl; rfl
theorem enumD_at (ds : List DD) (i : Nat) : (enumD ds)[i]? = (ds[i]?).map fun d => DD.tup [.int i, d] := by
  unfold enumD
  rw [List.getElem?_map, List.getElem?_zipIdx]
  cases ds[i]? <;> simp
theorem enumI_get {l : List Int} {i : Nat} {d : DD} (h : (enumD (l.map .int))[i]? = some d) : ∃ a, l[i]? = some a ∧ d = .tup [.int i, .int a] := by
  rw [enumD_at, List.getElem?_map] at h
  cases e : l[i]? with
  | none => rw [e] at h; cases h
  | some a => rw [e] at h; exact ⟨a, rfl, (Option.some.inj h).symm⟩
theorem intsD_get {l : List Int} {i : Nat} {d : DD} (h : (l.map DD.int)[i]? = some d) : ∃ a, l[i]? = some a ∧ d = .int a := by
  rw [List.getElem?_map] at h
  cases e : l[i]? with
  | none => rw [e] at h; cases h
  | some a => rw [e] at h; exact ⟨a, rfl, (Option.some.inj h).symm⟩
theorem Sm.pow {k : Nat} {a : Int} (h : Sm k a) : ∀ n : Nat, Sm (k * n + 1) (a ^ n)
  | 0 => by unfold Sm; simp
  | n + 1 => by
    rw [Int.pow_succ]
    exact ((Sm.pow h n).mul h).mono (by rw [Nat.mul_succ]; omega)
/-- the list as a tree -/
def tI (l : List Int) : List SV := l.map fun i => .dat (.int i)
@[simp] theorem tI_len (l : List Int) : (tI l).length = l.length := by simp [tI]
theorem tI_at {l : List Int} {n : Nat} (h : n < l.length) : atI (tI l) (n : Int) = some (.dat (.int (l.getD n 0))) := by
  unfold tI
  rw [atI_map, atI_nat h]
  simp [List.getD_eq_getElem?_getD, h]
theorem tI_set {l : List Int} {n : Nat} {v : Int} : (tI l).set n (.dat (.int v)) = tI (l.set n v) := by simp [tI, List.map_set]
theorem tI_rep {n : Nat} {c : Int} : List.replicate n (SV.dat (.int c)) = tI (List.replicate n c) := by simp [tI]
theorem oI_tI (l : List Int) : oI l = .own (tI l) := rfl
theorem drop_at {l : List Int} {i : Nat} {a : Int} (h : l[i]? = some a) : l.drop i = a :: l.drop (i + 1) := by
  obtain ⟨hl, e⟩ := List.getElem?_eq_some_iff.mp h
  rw [List.drop_eq_getElem_cons hl, e]
@[simp] theorem ixN30 : ixN 3 0 = some 0 := rfl
@[simp] theorem ixN31 : ixN 3 1 = some 1 := rfl
@[simp] theorem ixN32 : ixN 3 2 = some 2 := rfl
@[simp] theorem bits10 : Builtin.Int.intBits 10 = 4 := by decide +kernel
theorem smc {k : Nat} {n : Int} (h : n.natAbs < 2 ^ k := by decide +kernel) : Sm k n := h
theorem Sm.pw {k n : Nat} {x : Int} (h : Sm k x) (e : k * n ≤ 134217728 := by decide) : (Builtin.Int.intBits x : Int) * n ≤ 134217728 := by
  have h1 : Builtin.Int.intBits x * n ≤ k * n := Nat.mul_le_mul_right n h.bits
  have : Builtin.Int.intBits x * n ≤ 134217728 := Nat.le_trans h1 e
  rw [← Int.natCast_mul]
  omega
theorem fmod_in (x : Int) {m : Int} (h : 0 < m) : 0 ≤ x.fmod m ∧ x.fmod m < m := by
  rw [Int.fmod_eq_emod_of_nonneg _ (by omega)]
  exact ⟨Int.emod_nonneg _ (by omega), Int.emod_lt_of_pos _ h⟩
theorem fdiv_sm {k : Nat} {x m : Int} (h : Sm k x) (hm : 0 ≤ m) : Sm k (x.fdiv m) := by
  rw [Int.fdiv_eq_ediv_of_nonneg _ hm]
  exact h.le (Int.natAbs_ediv_le_natAbs _ _)
theorem fmod_sm {k : Nat} (x : Int) {m : Int} (h : 0 < m) (hm : Sm k m) : Sm k (x.fmod m) := by
  have := fmod_in x h
  exact hm.le (by omega)
theorem fmodN (l r : Nat) : (l : Int).fmod (r : Int) = ((l % r : Nat) : Int) := by
  rw [Int.fmod_eq_emod_of_nonneg _ (by omega), Int.natCast_emod]
/-- the turns of Euclid's way -/
structure Eu (g : Nat) (i l r : Nat) : Prop where
  g : Nat.gcd l r = g
  z : i = 0 → r < 2 ^ 9000
  s : 0 < i → r < l ∧ l * r * 2 ^ (i - 1) < 2 ^ 9000 * 2 ^ 9000
theorem Eu.step {g i l r : Nat} (h : Eu g i l r) (h0 : r ≠ 0) : Eu g (i + 1) r (l % r) := by
  have lt := Nat.mod_lt l (Nat.pos_of_ne_zero h0)
  refine ⟨?_, fun z => by omega, fun _ => ⟨lt, ?_⟩⟩
  · rw [Nat.gcd_comm r, ← Nat.gcd_rec, Nat.gcd_comm]; exact h.g
  · by_cases z : i = 0
    · subst z
      have h1 := h.z rfl
      simp only [Nat.zero_add, Nat.sub_self, Nat.pow_zero, Nat.mul_one]
      exact Nat.mul_lt_mul'' h1 (Nat.lt_trans lt h1)
    · obtain ⟨h1, h2⟩ := h.s (by omega)
      refine Nat.lt_of_le_of_lt ?_ h2
      obtain ⟨n, rfl⟩ : ∃ n, i = n + 1 := ⟨i - 1, by omega⟩
      simp only [Nat.add_sub_cancel]
      rw [Nat.pow_succ]
      have h3 : l % r + r ≤ l := by
        have := Nat.mod_add_div l r
        have h4 : 1 ≤ l / r := Nat.div_pos (by omega) (by omega)
        have := Nat.mul_le_mul_left r h4
        omega
      have h5 : l % r * 2 ≤ l := by omega
      calc r * (l % r) * (2 ^ n * 2) = (l % r * 2) * r * 2 ^ n := by grind
        _ ≤ l * r * 2 ^ n := Nat.mul_le_mul_right _ (Nat.mul_le_mul_right _ h5)
theorem Eu.last {g l r : Nat} (h : Eu g 20000 l r) : l = g := by
  obtain ⟨h1, h2⟩ := h.s (by omega)
  have e : l * r = 0 := by
    by_cases z : l * r = 0
    · exact z
    · have a : 1 * 2 ^ (20000 - 1) ≤ l * r * 2 ^ (20000 - 1) := Nat.mul_le_mul_right _ (by omega)
      rw [← Nat.pow_add] at h2
      have b : 2 ^ (9000 + 9000) ≤ 2 ^ (20000 - 1) := Nat.pow_le_pow_right (by omega) (by omega)
      omega
  have r0 : r = 0 := by
    rcases Nat.mul_eq_zero.mp e with z | z
    · omega
    · exact z
  have := h.g
  rw [r0, Nat.gcd_zero_right] at this
  exact this
def addAt (L M : List Int) : DD → SV
  | .int k => .dat (.int (L.getD k.toNat 0 + M.getD k.toNat 0))
  | _ => .dat .non
theorem addAt_all (L M : List Int) {n : Nat} (hL : L.length = n) (hM : M.length = n) : (rgD 0 1 n).map (addAt L M) = (List.zipWith (· + ·) L M).map fun i => SV.dat (.int i) := by
  apply List.ext_getElem
  · simp [rgD, hL, hM]
  · intro i h1 h2
    have hi : i < n := by simpa [rgD] using h1
    simp [rgD, addAt, hL, hM, hi]
theorem rT_int (c : Int) : DD.tup [.int c, .int 1] = rT (c : Rat) := by simp [rT]
theorem Qb.pow {k : Nat} {x : Rat} (h : Qb k x) : ∀ n : Nat, Qb (k * n + 1) (x ^ n)
  | 0 => by
    have e : x ^ 0 = ((1 : Int) : Rat) := by simp
    rw [e]
    exact Qb.int (smc (by simp)) (by omega)
  | n + 1 => by
    rw [Rat.pow_succ]
    exact ((Qb.pow h n).mul h).mono (by rw [Nat.mul_succ]; omega)
theorem evalR_take {l : List Int} {i : Nat} {c : Int} (x : Rat) (h : l[i]? = some c) : evalR (l.take (i + 1)) x = evalR (l.take i) x + (c : Rat) * x ^ i := by
  have hi := (List.getElem?_eq_some_iff.mp h).1
  rw [List.take_add_one, h, Option.toList_some, evalR_snoc, List.length_take, Nat.min_eq_left (by omega)]
theorem evalR_qb {A B n : Nat} {x : Rat} (hx : Qb B x) {l : List Int} (sl : ∀ c ∈ l, Sm A c) (hn : l.length ≤ n) : ∀ i, i ≤ l.length → Qb ((A + B * (n + 1) + 3) * i + 1) (evalR (l.take i) x)
  | 0, _ => by
    show Qb _ ((0 : Int) : Rat)
    exact Qb.int (smc (by simp)) (by omega)
  | i + 1, h => by
    have ih := evalR_qb hx sl hn i (by omega)
    rw [evalR_take x (List.getElem?_eq_getElem (show i < l.length by omega))]
    have hc : Qb (A + 1) ((l[i] : Int) : Rat) := Qb.int ((sl _ (List.getElem_mem _)).mono (by omega)) (by omega)
    refine (ih.add (hc.mul (hx.pow i))).mono ?_
    have := Nat.mul_le_mul (Nat.le_refl B) (show i ≤ n + 1 by omega)
    rw [Nat.mul_succ (A + B * (n + 1) + 3) i]
    omega
@[simp] theorem tI_data (l : List Int) : (tI l).map SV.data = l.map .int := by simp [tI]
theorem tI_end (l : List Int) : atI (tI l) (-1) = l.getLast?.map fun i => SV.dat (.int i) := by rw [atI_end]; simp [tI]
theorem tI_snoc (l : List Int) (i : Int) : tI l ++ [SV.dat (.int i)] = tI (l ++ [i]) := by simp [tI]
theorem ixN_end {n : Nat} (h : 0 < n) : ixN n (-1) = some (n - 1) := by
  unfold ixN
  have h1 : (1 : Int) ≤ n := by omega
  have h2 : (-1 + (n : Int)).toNat = n - 1 := by omega
  simp [h1, h2]
theorem at4 {a b c d : Int} {n : Int} (h0 : 0 ≤ n) (h1 : n < 4) : ∃ x, atI [DD.int a, DD.int b, DD.int c, DD.int d] n = some (.int x) ∧ (x = a ∨ x = b ∨ x = c ∨ x = d) := by
  have : n = 0 ∨ n = 1 ∨ n = 2 ∨ n = 3 := by omega
  rcases this with rfl | rfl | rfl | rfl
  · exact ⟨a, by simp, .inl rfl⟩
  · exact ⟨b, by simp, .inr (.inl rfl)⟩
  · exact ⟨c, by simp, .inr (.inr (.inl rfl))⟩
  · exact ⟨d, by rfl, .inr (.inr (.inr rfl))⟩
theorem at3 {a b c : Int} {n : Int} (h0 : 0 ≤ n) (h1 : n < 3) : ∃ x, atI [DD.int a, DD.int b, DD.int c] n = some (.int x) ∧ (x = a ∨ x = b ∨ x = c) := by
  have : n = 0 ∨ n = 1 ∨ n = 2 := by omega
  rcases this with rfl | rfl | rfl
  · exact ⟨a, by simp, .inl rfl⟩
  · exact ⟨b, by simp, .inr (.inl rfl)⟩
  · exact ⟨c, by simp, .inr (.inr rfl)⟩
theorem sm_of {k : Nat} {n b : Int} (h0 : -b ≤ n) (h1 : n ≤ b) (hb : b.natAbs < 2 ^ k := by decide +kernel) : Sm k n := by
  have : n.natAbs ≤ b.natAbs := by omega
  exact Nat.lt_of_le_of_lt this hb
end DL

namespace DL
open PySem PySem.Spec PyProof.Rows L2
/-! ### copies, marks -/
mutual
/-- no list within -/
def noL : DD → Bool
  | .non => true
  | .bl _ => true
  | .int _ => true
  | .str _ => true
  | .tup l => noLs l
  | _ => false
def noLs : List DD → Bool
  | [] => true
  | d :: r => noL d && noLs r
end
mutual
def cp : DD → SV
  | .lst l => .own (cps l)
  | .tup l => if noLs l = true then .dat (.tup l) else .tp (cps l)
  | d => .dat d
def cps : List DD → List SV
  | [] => []
  | d :: r => cp d :: cps r
end
theorem cps_eq : ∀ l, cps l = l.map cp
  | [] => rfl
  | d :: r => by simp [cps, cps_eq r]
mutual
theorem cp_data : ∀ d : DD, (cp d).data = d
  | .lst l => by simp only [cp, SV.data, cps_data l]
  | .tup l => by
    rw [cp]
    by_cases h : noLs l = true
    · rw [if_pos h]; rfl
    · rw [if_neg h, SV.data, cps_data l]
  | .non => rfl
  | .bl _ => rfl
  | .int _ => rfl
  | .str _ => rfl
  | .obj _ _ => rfl
  | .opq _ => rfl
  | .exc _ _ _ _ => rfl
  | .at_ _ _ => rfl
  | .klst _ => rfl
theorem cps_data : ∀ l : List DD, SV.datas (cps l) = l
  | [] => rfl
  | d :: r => by simp only [cps, SV.datas, cp_data d, cps_data r]
end
/-- what can be copied -/
def okC : Nat → DD → Prop
  | 0, _ => False
  | n + 1, .lst l => l.length ≤ 2 ^ 24 ∧ ∀ d ∈ l, okC n d
  | n + 1, .tup l => l.length ≤ 2 ^ 24 ∧ ∀ d ∈ l, okC n d
  | _ + 1, .non => True
  | _ + 1, .bl _ => True
  | _ + 1, .int _ => True
  | _ + 1, .str _ => True
  | _ + 1, _ => False
theorem okC_up : ∀ {n : Nat} {d : DD}, okC n d → okC (n + 1) d
  | 0, _, h => h.elim
  | n + 1, .lst l, h => ⟨h.1, fun d m => okC_up (h.2 d m)⟩
  | n + 1, .tup l, h => ⟨h.1, fun d m => okC_up (h.2 d m)⟩
  | _ + 1, .non, _ => trivial
  | _ + 1, .bl _, _ => trivial
  | _ + 1, .int _, _ => trivial
  | _ + 1, .str _, _ => trivial
def cCopy (n : Nat) : Ctr := fun as Q => ∃ d, as = [.dat d] ∧ okC n d ∧ Q (cp d) as
/-! lists told with their places -/
mutual
def labD : DD → List DD
  | .at_ v (.lst l) => .at_ v (.lst l) :: labs l
  | .tup l => labs l
  | _ => []
def labs : List DD → List DD
  | [] => []
  | d :: r => labD d ++ labs r
end
def okL : Nat → DD → Prop
  | 0, _ => False
  | n + 1, .at_ _ (.lst l) => l.length ≤ 2 ^ 24 ∧ (labs l).length < 2 ^ 24 - 1 ∧ ∀ d ∈ l, okL n d
  | n + 1, .tup l => l.length ≤ 2 ^ 24 ∧ (labs l).length < 2 ^ 24 - 1 ∧ ∀ d ∈ l, okL n d
  | _ + 1, .non => True
  | _ + 1, .bl _ => True
  | _ + 1, .int _ => True
  | _ + 1, .str _ => True
  | _ + 1, _ => False
def cLists (n : Nat) : Ctr := fun as Q => ∃ d, as = [.dat d] ∧ okL n d ∧ Q (.own ((labD d).map .dat)) as
theorem labs_eq : ∀ l, labs l = (l.map labD).flatten
  | [] => rfl
  | d :: r => by simp [labs, labs_eq r]
theorem labs_app (l m : List DD) : labs (l ++ m) = labs l ++ labs m := by simp [labs_eq]
theorem labs_step {l : List DD} {i : Nat} {d : DD} (h : l[i]? = some d) : labs (l.take (i + 1)) = labs (l.take i) ++ labD d := by
  rw [List.take_add_one, h, Option.toList_some, labs_app]
  simp [labs]
theorem labs_le (l : List DD) (i : Nat) : (labs (l.take i)).length ≤ (labs l).length := by
  have : labs l = labs (l.take i) ++ labs (l.drop i) := by rw [← labs_app, List.take_append_drop]
  rw [this, List.length_append]
  omega
def negG : DD → SV
  | .int i => .dat (.int (0 - i))
  | _ => .dat .non
@[simp] theorem negG_int {i : Int} : negG (.int i) = .dat (.int (0 - i)) := rfl
theorem negG_all (l : List Int) : (l.map DD.int).map negG = tI (l.map fun i => 0 - i) := by simp [tI]
@[simp] theorem ints_inj' {l m : List Int} : (l.map DD.int = m.map DD.int) ↔ l = m := ⟨ints_inj, fun h => by rw [h]⟩
/-- a polynomial as the law draws it -/
structure PL (l : List Int) : Prop where
  n : l.length ≤ 8
  b : Bd 1000000 l
  z : l.getLast? ≠ some 0
theorem neg_bd {B : Nat} {l : List Int} (h : Bd B l) : Bd B (l.map fun i => 0 - i) := fun c m => by
  obtain ⟨a, ha, rfl⟩ := List.mem_map.mp m
  have := h a ha
  omega
theorem PL.neg {l : List Int} (h : PL l) : PL (l.map fun i => 0 - i) := ⟨by simpa using h.n, neg_bd h.b, by
  have := h.z
  rw [List.getLast?_map]
  cases e : l.getLast? with
  | none => simp
  | some a =>
    rw [e] at this
    simp at this ⊢
    omega⟩
theorem app_bd {B : Nat} {l m : List Int} (h1 : Bd B l) (h2 : Bd B m) : Bd B (l ++ m) := fun c z => (List.mem_append.mp z).elim (h1 c) (h2 c)
theorem take_bd {B n : Nat} {l : List Int} (h : Bd B l) : Bd B (l.take n) := fun c z => h c (List.mem_of_mem_take z)
theorem drop_bd {B n : Nat} {l : List Int} (h : Bd B l) : Bd B (l.drop n) := fun c z => h c (List.mem_of_mem_drop z)
theorem PL.mix {l : List Int} (h : PL l) {n : Nat} (hn : n ≤ 2) : PL (trim (l.take n ++ (l.drop 2).map fun i => 0 - i)) := ⟨by
  refine Nat.le_trans (trim_le _) ?_
  have := h.n
  simp
  omega, trim_bd (app_bd (take_bd h.b) (neg_bd (drop_bd h.b))), trim_last _⟩
theorem cut_take {α : Type} {l : List α} {n : Nat} : DL.cutD l none (some (n : Int)) = l.take n := by
  unfold DL.cutD
  rw [HT.sIx_none, HT.sIx_nat, List.drop_zero, Nat.sub_zero]
  by_cases h : n ≤ l.length
  · rw [Nat.min_eq_left h]
  · rw [Nat.min_eq_right (by omega), List.take_length, List.take_of_length_le (by omega)]
theorem cut_from2 {α : Type} {l : List α} : DL.cutD l (some 2) none = l.drop 2 := cut_from (n := 2)
theorem cut_to5 {α : Type} {l : List α} : DL.cutD l none (some 5) = l.take 5 := cut_take (n := 5)
theorem cut_to6 {α : Type} {l : List α} : DL.cutD l none (some 6) = l.take 6 := cut_take (n := 6)
end DL

namespace DL
open PySem PySem.Spec PyProof.Rows L2
/-! ### trees of lists, marked in order -/
mutual
def cnt : SV → Nat
  | .own ts => cnts ts + 1
  | .tp ts => cnts ts
  | .dat _ => 0
  | .ob _ _ => 0
def cnts : List SV → Nat
  | [] => 0
  | t :: r => cnt t + cnts r
end
mutual
def mk (k : Nat) : Nat → SV → SV
  | b, .own ts => .own (mks k (b + 1) ts ++ if b < k then [.dat (.int b)] else [])
  | _, .dat d => .dat d
  | _, .ob C fs => .ob C fs
  | b, .tp ts => .tp (mks k b ts)
def mks (k : Nat) : Nat → List SV → List SV
  | _, [] => []
  | b, t :: r => mk k b t :: mks k (b + cnt t) r
end
def markT (t : SV) : SV := mk (cnt t) 0 t
mutual
theorem mk_out {j : Nat} : ∀ (b : Nat) (t : SV), j < b ∨ b + cnt t ≤ j → mk (j + 1) b t = mk j b t
  | b, .own ts, h => by
    simp only [cnt] at h
    rw [mk, mk, mks_out (b + 1) ts (by omega)]
    have : (b < j + 1) = (b < j) := by simp only [eq_iff_iff]; omega
    simp only [this]
  | _, .dat _, _ => rfl
  | _, .ob _ _, _ => rfl
  | b, .tp ts, h => by rw [mk, mk, mks_out b ts (by simpa only [cnt] using h)]
theorem mks_out {j : Nat} : ∀ (b : Nat) (ts : List SV), j < b ∨ b + cnts ts ≤ j → mks (j + 1) b ts = mks j b ts
  | _, [], _ => rfl
  | b, t :: r, h => by
    simp only [cnts] at h
    rw [mks, mks, mk_out b t (by omega), mks_out (b + cnt t) r (by omega)]
end
mutual
theorem mk_zero : ∀ (b : Nat) (t : SV), mk 0 b t = t
  | b, .own ts => by rw [mk, mks_zero (b + 1) ts]; simp
  | _, .dat _ => rfl
  | _, .ob _ _ => rfl
  | b, .tp ts => by rw [mk, mks_zero b ts]
theorem mks_zero : ∀ (b : Nat) (ts : List SV), mks 0 b ts = ts
  | _, [] => rfl
  | b, t :: r => by rw [mks, mk_zero, mks_zero]
end
theorem mks_len (k : Nat) : ∀ (b : Nat) (ts : List SV), (mks k b ts).length = ts.length
  | _, [] => rfl
  | b, t :: r => by rw [mks, List.length_cons, mks_len k (b + cnt t) r, List.length_cons]
/-- what can be marked -/
def okT : Nat → SV → Prop
  | 0, _ => False
  | n + 1, .own ts => ts.length < 2 ^ 24 ∧ ∀ t ∈ ts, okT n t
  | n + 1, .dat d => okL (n + 1) d ∧ labD d = []
  | _ + 1, .ob _ _ => False
  | n + 1, .tp ts => ts.length < 2 ^ 24 ∧ ∀ t ∈ ts, okT n t
def key : DD → V
  | .at_ v _ => v
  | _ => .non
section
variable {K : PySem.W.Frag} {G H F : Hp}
theorem labs_nil : ∀ {ds : List DD}, (∀ d ∈ ds, labD d = []) → labs ds = []
  | [], _ => rfl
  | d :: r, h => by rw [labs, h d List.mem_cons_self, labs_nil fun x m => h x (List.mem_cons_of_mem _ m)]; rfl
mutual
theorem OT.lab (s : Sub G F) : ∀ (t : SV) {n : Nat} {v : V} {fp : List Addr}, OT K G H v t fp → okT n t → fp.length < 2 ^ 24 - 1 → (∀ a ∈ fp, ∀ o, H a = some o → F a = some o) →
    ∃ d, Rq K F v d ∧ okL n d ∧ (labD d).map key = fp.map V.ref
  | .dat d, 0, _, _, _, h, _, _ => h.elim
  | .dat d, n + 1, _, _, o, h, _, _ => by
    obtain ⟨r, rfl⟩ := o.dat_inv
    exact ⟨d, r.mono s, h.1, by rw [h.2]; rfl⟩
  | .own ts, 0, _, _, _, h, _, _ => h.elim
  | .own ts, n + 1, _, _, o, h, z, k => by
    obtain ⟨a, vs, f, rfl, rfl, e1, e2, os, na⟩ := o.own_inv
    simp only [List.length_cons] at z
    obtain ⟨ds, r, ok, lk, hl⟩ := OTs.lab s ts os h.2 (by omega) fun x m => k x (List.mem_cons_of_mem _ m)
    have lz : (labs ds).length = f.length := by
      have := congrArg List.length lk
      simpa using this
    refine ⟨.at_ (.ref a) (.lst ds), .at_ (.lst (.inl (k a List.mem_cons_self _ e1)) r), ⟨?_, ?_, ok⟩, ?_⟩
    · have := h.1; omega
    · omega
    · rw [labD, List.map_cons, lk]; rfl
  | .ob _ _, 0, _, _, _, h, _, _ => h.elim
  | .ob _ _, _ + 1, _, _, _, h, _, _ => h.elim
  | .tp ts, 0, _, _, _, h, _, _ => h.elim
  | .tp ts, n + 1, _, _, o, h, z, k => by
    obtain ⟨a, vs, rfl, e1, os⟩ := o.tp_inv
    obtain ⟨ds, r, ok, lk, hl⟩ := OTs.lab s ts os h.2 z k
    have lz : (labs ds).length < 2 ^ 24 - 1 := by
      have e := congrArg List.length lk
      rw [List.length_map, List.length_map] at e
      rw [e]; exact z
    refine ⟨.tup ds, .tup (s.t e1) r, ⟨?_, lz, ok⟩, ?_⟩
    · have := h.1; omega
    · rw [labD, lk]
theorem OTs.lab (s : Sub G F) : ∀ (ts : List SV) {n : Nat} {vs : List V} {fp : List Addr}, OTs K G H vs ts fp → (∀ t ∈ ts, okT n t) → fp.length < 2 ^ 24 - 1 → (∀ a ∈ fp, ∀ o, H a = some o → F a = some o) →
    ∃ ds, RqA K F vs ds ∧ (∀ d ∈ ds, okL n d) ∧ (labs ds).map key = fp.map V.ref ∧ ds.length = ts.length
  | [], _, _, _, o, _, _, _ => by
    cases o
    exact ⟨[], .nil, fun _ m => (nomatch m), rfl, rfl⟩
  | t :: r, n, _, _, o, h, z, k => by
    cases o with
    | cons a b dj =>
      rw [List.length_append] at z
      obtain ⟨d, r1, o1, l1⟩ := OT.lab s t a (h t List.mem_cons_self) (by omega) fun x m => k x (List.mem_append_left _ m)
      obtain ⟨ds, r2, o2, l2, hl⟩ := OTs.lab s r b (fun x m => h x (List.mem_cons_of_mem _ m)) (by omega) fun x m => k x (List.mem_append_right _ m)
      refine ⟨d :: ds, .cons r1 r2, fun x m => ?_, ?_, by simp [hl]⟩
      · rcases List.mem_cons.mp m with e | m
        · rw [e]; exact o1
        · exact o2 x m
      · rw [labs, List.map_append, l1, l2, List.map_append]
end
theorem OTs.unsnocD {d : DD} : ∀ {ts : List SV} {vs : List V} {f : List Addr}, OTs K G H vs (ts ++ [.dat d]) f → ∃ ws w, vs = ws ++ [w] ∧ OTs K G H ws ts f ∧ Rq K G w d
  | [], _, _, h => by
    cases h with
    | cons a b dj =>
      cases b
      obtain ⟨r, rfl⟩ := a.dat_inv
      exact ⟨[], _, rfl, .nil, r⟩
  | t :: ts, _, _, h => by
    rw [List.cons_append] at h
    cases h with
    | cons a b dj =>
      obtain ⟨ws, w, rfl, o, r⟩ := OTs.unsnocD b
      exact ⟨_ :: ws, w, rfl, .cons a o dj, r⟩
theorem OTs.snocD {d : DD} {w : V} (r : Rq K G w d) {ts : List SV} {vs : List V} {f : List Addr} (h : OTs K G H vs ts f) : OTs K G H (vs ++ [w]) (ts ++ [.dat d]) f := by
  have := h.snoc (f2 := []) (.dat r) (fun _ _ z => nomatch z)
  simpa using this
mutual
theorem OT.size : ∀ (t : SV) {n k b : Nat} {v : V} {fp : List Addr}, OT K G H v (mk k b t) fp → okT n t → fp.length = cnt t
  | .dat d, _, _, _, _, _, o, _ => by
    rw [mk] at o
    obtain ⟨_, rfl⟩ := o.dat_inv
    rfl
  | .own ts, 0, _, _, _, _, _, h => h.elim
  | .own ts, n + 1, k, b, _, _, o, h => by
    rw [mk] at o
    obtain ⟨a, vs, f, rfl, rfl, e1, e2, os, na⟩ := o.own_inv
    have : f.length = cnts ts := by
      by_cases q : b < k
      · rw [if_pos q] at os
        obtain ⟨ws, w, _, o1, _⟩ := os.unsnocD
        exact OTs.size ts o1 h.2
      · rw [if_neg q, List.append_nil] at os
        exact OTs.size ts os h.2
    simp [cnt, this]
  | .ob _ _, 0, _, _, _, _, _, h => h.elim
  | .ob _ _, _ + 1, _, _, _, _, _, h => h.elim
  | .tp _, 0, _, _, _, _, _, h => h.elim
  | .tp ts, n + 1, _, _, _, _, o, h => by
    rw [mk] at o
    obtain ⟨a, vs, rfl, _, os⟩ := o.tp_inv
    rw [cnt]
    exact OTs.size ts os h.2
theorem OTs.size : ∀ (ts : List SV) {n k b : Nat} {vs : List V} {fp : List Addr}, OTs K G H vs (mks k b ts) fp → (∀ t ∈ ts, okT n t) → fp.length = cnts ts
  | [], _, _, _, _, _, o, _ => by
    rw [mks] at o
    cases o
    rfl
  | t :: r, n, k, b, _, _, o, h => by
    rw [mks] at o
    cases o with
    | cons a b dj =>
      rw [List.length_append, OT.size t a (h t List.mem_cons_self), OTs.size r b fun x m => h x (List.mem_cons_of_mem _ m), cnts]
end
theorem OT.up {a : Addr} {o : HO} {t : SV} {v : V} {fp : List Addr} (h : OT K G H v t fp) (n : a ∉ fp) : OT K G (upd H a o) v t fp :=
  h.mono (Sub.refl G) (fun x m u e => by rw [upd_ne (show x ≠ a from fun z => n (by rw [← z]; exact m))]; exact e) fun x m => (h.here x m).2
theorem OTs.up {a : Addr} {o : HO} {t : List SV} {v : List V} {fp : List Addr} (h : OTs K G H v t fp) (n : a ∉ fp) : OTs K G (upd H a o) v t fp :=
  h.mono (Sub.refl G) (fun x m u e => by rw [upd_ne (show x ≠ a from fun z => n (by rw [← z]; exact m))]; exact e) fun x m => (h.here x m).2
mutual
theorem OT.mark {j : Nat} : ∀ (t : SV) {n b : Nat} {v : V} {fp : List Addr}, OT K G H v (mk j b t) fp → okT n t → b ≤ j → j < b + cnt t →
    ∃ a vs, fp[j - b]? = some a ∧ H a = some (.lst vs) ∧ vs.length < 2 ^ 24 ∧ OT K G (upd H a (.lst (vs ++ [.int j]))) v (mk (j + 1) b t) fp
  | .dat d, _, b, _, _, _, _, h1, h2 => by simp only [cnt] at h2; omega
  | .own ts, 0, _, _, _, _, h, _, _ => h.elim
  | .own ts, n + 1, b, _, _, o, h, h1, h2 => by
    rw [mk] at o
    obtain ⟨a, vs, f, rfl, rfl, e1, e2, os, na⟩ := o.own_inv
    simp only [cnt] at h2
    by_cases q : j = b
    · subst q
      rw [if_neg (Nat.lt_irrefl _), List.append_nil] at os
      refine ⟨a, vs, by simp, e1, ?_, ?_⟩
      · have := os.length
        have l : (mks j (j + 1) ts).length = ts.length := mks_len _ _ _
        have := h.1
        omega
      · rw [mk, mks_out (j + 1) ts (by omega), if_pos (by omega)]
        exact .own upd_same e2 ((os.up na).snocD (.int _)) na
    · have lt : b < j := by omega
      rw [if_pos lt] at os
      obtain ⟨ws, w, rfl, o1, r⟩ := os.unsnocD
      obtain ⟨x, xs, g1, g2, g3, g4⟩ := OTs.mark ts o1 h.2 (by omega) (by omega)
      have mem := List.mem_of_getElem? g1
      refine ⟨x, xs, ?_, g2, g3, ?_⟩
      · obtain ⟨m, rfl⟩ : ∃ m, j = b + 1 + m := ⟨j - (b + 1), by omega⟩
        rw [show b + 1 + m - b = m + 1 by omega, List.getElem?_cons_succ]
        rw [show b + 1 + m - (b + 1) = m by omega] at g1
        exact g1
      · rw [mk, if_pos (by omega)]
        exact .own (by rw [upd_ne (show a ≠ x from fun z => na (by rw [z]; exact mem))]; exact e1) e2 (g4.snocD r) na
  | .ob _ _, _, _, _, _, _, _, h1, h2 => by simp only [cnt] at h2; omega
  | .tp ts, 0, _, _, _, _, h, _, _ => h.elim
  | .tp ts, n + 1, b, _, _, o, h, h1, h2 => by
    rw [mk] at o
    obtain ⟨a, vs, rfl, e1, os⟩ := o.tp_inv
    simp only [cnt] at h2
    obtain ⟨x, xs, g1, g2, g3, g4⟩ := OTs.mark ts os h.2 h1 h2
    exact ⟨x, xs, g1, g2, g3, by rw [mk]; exact .tp e1 g4⟩
theorem OTs.mark {j : Nat} : ∀ (ts : List SV) {n b : Nat} {vs : List V} {fp : List Addr}, OTs K G H vs (mks j b ts) fp → (∀ t ∈ ts, okT n t) → b ≤ j → j < b + cnts ts →
    ∃ a us, fp[j - b]? = some a ∧ H a = some (.lst us) ∧ us.length < 2 ^ 24 ∧ OTs K G (upd H a (.lst (us ++ [.int j]))) vs (mks (j + 1) b ts) fp
  | [], _, _, _, _, _, _, h1, h2 => by simp only [cnts] at h2; omega
  | t :: r, n, b, _, _, o, h, h1, h2 => by
    rw [mks] at o
    simp only [cnts] at h2
    cases o with
    | cons a c dj =>
      rename_i f1 f2
      have sz := OT.size t a (h t List.mem_cons_self)
      by_cases q : j < b + cnt t
      · obtain ⟨x, xs, g1, g2, g3, g4⟩ := OT.mark t a (h t List.mem_cons_self) h1 q
        have mem := List.mem_of_getElem? g1
        refine ⟨x, xs, ?_, g2, g3, ?_⟩
        · rw [List.getElem?_append_left (by omega)]; exact g1
        · rw [mks, mks_out (b + cnt t) r (by omega)]
          exact .cons g4 (c.up (dj x mem)) dj
      · obtain ⟨x, xs, g1, g2, g3, g4⟩ := OTs.mark r c (fun y m => h y (List.mem_cons_of_mem _ m)) (by omega) (by omega)
        have mem := List.mem_of_getElem? g1
        refine ⟨x, xs, ?_, g2, g3, ?_⟩
        · rw [List.getElem?_append_right (by omega), sz, show j - b - cnt t = j - (b + cnt t) by omega]; exact g1
        · rw [mks, mk_out b t (by omega)]
          exact .cons (a.up fun m => dj x m mem) g4 dj
end
end
end DL

namespace DL
open PySem PySem.Spec PyProof.Rows L2
def cMark : Ctr := fun as Q => ∃ t, as = [t] ∧ okT 8 t ∧ cnt t < 2 ^ 20 ∧ okR (markT t).data ∧ Q (.dat (.str (shD (markT t).data))) [markT t]
def rLenS (K : PySem.W.Frag) : List V → Hp → VK → Prop := fun xs H Q => ∃ p ys, xs = [.ref p] ∧ (SqL K H p ys ∨ SqT K H p ys) ∧ Q (.int ys.length) H
def tMark (K : PySem.W.Frag) (E : XK) : TS :=
  tSeq (tAsg (tCall (spD K (cLists 8)) [] E (tCons (tVar 0) tNil)) (gName 1))
    (tSeq (tFor (iRng1 (tCons (tCB (rLenS K) (tCons (tVar 1) tNil)) tNil)) (gName 2) (tDrop (tBM K "list" rAppend (tOp (rIx K) (tVar 1) (tVar 2)) (tCons (tVar 2) tNil))))
      (tRet (tCB (rRepr K) (tCons (tVar 0) tNil))))
section
variable {K : PySem.W.Frag} {G H : Hp}
theorem refs_of_at : ∀ {ds : List DD} {vs : List V}, RqA K G vs ds → (∀ d ∈ ds, ∃ v e, d = .at_ v e) → vs = ds.map key
  | [], _, .nil, _ => rfl
  | d :: r, _, .cons a b, h => by
    obtain ⟨v, e, rfl⟩ := h d List.mem_cons_self
    cases a
    rw [refs_of_at b fun x m => h x (List.mem_cons_of_mem _ m)]
    rfl
mutual
theorem labD_at : ∀ (d : DD), ∀ x ∈ labD d, ∃ v e, x = .at_ v e
  | .at_ v (.lst l), x, m => by
    rw [labD] at m
    rcases List.mem_cons.mp m with e | m
    · exact ⟨_, _, e⟩
    · exact labs_at l x m
  | .tup l, x, m => by
    rw [labD] at m
    exact labs_at l x m
  | .non, x, m => by simp [labD] at m
  | .bl _, x, m => by simp [labD] at m
  | .int _, x, m => by simp [labD] at m
  | .str _, x, m => by simp [labD] at m
  | .lst _, x, m => by simp [labD] at m
  | .obj _ _, x, m => by simp [labD] at m
  | .opq _, x, m => by simp [labD] at m
  | .exc _ _ _ _, x, m => by simp [labD] at m
  | .klst _, x, m => by simp [labD] at m
  | .at_ _ .non, x, m => by simp [labD] at m
  | .at_ _ (.bl _), x, m => by simp [labD] at m
  | .at_ _ (.int _), x, m => by simp [labD] at m
  | .at_ _ (.str _), x, m => by simp [labD] at m
  | .at_ _ (.tup _), x, m => by simp [labD] at m
  | .at_ _ (.obj _ _), x, m => by simp [labD] at m
  | .at_ _ (.opq _), x, m => by simp [labD] at m
  | .at_ _ (.exc _ _ _ _), x, m => by simp [labD] at m
  | .at_ _ (.klst _), x, m => by simp [labD] at m
  | .at_ _ (.at_ _ _), x, m => by simp [labD] at m
theorem labs_at : ∀ (l : List DD), ∀ x ∈ labs l, ∃ v e, x = .at_ v e
  | [], x, m => by cases m
  | d :: r, x, m => by
    rw [labs] at m
    rcases List.mem_append.mp m with m | m
    · exact labD_at d x m
    · exact labs_at r x m
end
theorem mark_walk {E : XK} {vs : List V} {Q : VK} {E' : XK} (h : spD K cMark vs H Q E') : tMark K E { nx := fun _ H' => Q .non H', rt := Q } (vs.map some ++ [none, none]) H := by
  obtain ⟨G, as, fp, Qd, c, ⟨t, rfl, ht, hc, hr, hq⟩, kk⟩ := h
  obtain ⟨v, rfl⟩ : ∃ v, vs = [v] := by
    have := c.len
    match vs, this with
    | [v], _ => exact ⟨v, rfl⟩
  obtain ⟨v', ev, ot⟩ := c.slot 0 t rfl
  have : v = v' := by injection ev with z; injection z
  subst this
  have sz : (fp 0).length = cnt t := OT.size (k := 0) (b := 0) t (by rw [mk_zero]; exact ot) ht
  have nG : ∀ a ∈ fp 0, G a = none := fun a m => (ot.here a m).2
  have sg : Sub G (sealH G H (fp 0)) := sealH_sub nG
  obtain ⟨d, rd, okd, lk⟩ := OT.lab sg t ot ht (by omega) fun a m o e => by rw [sealH_in m]; exact e
  refine ⟨v, rfl, ?_⟩
  refine ⟨sealH G H (fp 0), [.dat d], fun _ => [], fun r _ => r = .own ((labD d).map .dat), ⟨rfl, fun a o e => ?_, fun i u hu => ?_, fun _ _ => rfl, fun _ _ _ z => nomatch z⟩, ⟨d, rfl, okd, rfl⟩, ?_⟩
  · by_cases m : a ∈ fp 0
    · rw [sealH_in m] at e; exact e
    · rw [sealH_out m] at e; exact c.sub a o e
  · cases i with
    | zero =>
      have : u = .dat d := by simpa using hu.symm
      subst this
      exact ⟨v, rfl, .dat rd⟩
    | succ i => simp at hu
  rintro r as' w G1 H1 fp1 fr c1 st in1 o1 d1 d2 rfl
  obtain ⟨L, us, f, rfl, rfl, hL, gL, os, nL⟩ := o1.own_inv
  have eus : us = (fp 0).map V.ref := by
    rw [← lk]
    have := os.dats
    exact refs_of_at this.1 (labD_at d)
  have hLn : H L = none := by
    rcases d2 L List.mem_cons_self with z | ⟨i, z⟩
    · exact z
    · cases z
  have keep1 : ∀ a o, H a = some o → H1 a = some o := fun a o e => st.keep a o (fun ⟨i, z⟩ => nomatch z) e
  have ot1 : OT K G H1 v t (fp 0) := ot.mono (Sub.refl G) (fun a m o e => keep1 a o e) nG
  refine ⟨.ref L, rfl, L, us, rfl, .inl (.inl (.inl hL)), ?_⟩
  refine ⟨_, rfl, by omega, by rw [eus]; simp; omega, ?_⟩
  have nlen : ((us.length : Int)).toNat = cnt t := by rw [eus]; simp [sz]
  rw [nlen]
  refine ⟨fun i m σ H' => m = cnt t - i ∧ i ≤ cnt t ∧ ∃ x2, σ = [some v, some (.ref L), x2] ∧ (∀ a o, a ∉ fp 0 → H a = some o → H' a = some o) ∧ OT K G H' v (mk i 0 t) (fp 0) ∧ H' L = some (.lst us), ⟨_, rfl, Nat.zero_le _, none, rfl, fun a o _ e => keep1 a o e, by rw [mk_zero]; exact ot1, hL⟩, ?_⟩
  rintro i m σ H2 ⟨rfl, hi, x2, rfl, kp, o2, hL2⟩
  by_cases lt : i < cnt t
  · refine .inr ⟨lt, fun σ' H' => i + 1 ≤ cnt t ∧ ∃ x2, σ' = [some v, some (.ref L), x2] ∧ (∀ a o, a ∉ fp 0 → H a = some o → H' a = some o) ∧ OT K G H' v (mk (i + 1) 0 t) (fp 0) ∧ H' L = some (.lst us), fun σ' H' q => ⟨cnt t - (i + 1), by omega, rfl, q⟩, ?_⟩
    rintro x H' ⟨rfl, rfl⟩
    have e0 : (0 : Int) + (i : Int) = (i : Int) := by omega
    rw [e0]
    obtain ⟨a, ws, g1, g2, g3, g4⟩ := OT.mark t o2 ht (Nat.zero_le _) (by omega)
    have mem := List.mem_of_getElem? g1
    have neL : L ≠ a := fun z => by
      obtain ⟨⟨o, e⟩, _⟩ := ot.here a mem
      rw [← z, hLn] at e; cases e
    have at1 : atI us (i : Int) = some (.ref a) := by
      have il : i < (fp 0).length := by omega
      rw [eus, atI_map, atI_nat il]
      rw [Nat.sub_zero, List.getElem?_eq_getElem il] at g1
      injection g1 with g1
      rw [g1]; rfl
    refine ⟨.ref L, rfl, .int i, rfl, .inl ⟨L, us, i, .ref a, rfl, rfl, .inl (.inl hL2), at1, ?_⟩⟩
    refine ⟨.inl ⟨rfl, _, .inl (.inl g2)⟩, .int i, rfl, a, ws, .int i, rfl, rfl, g2, g3, ?_⟩
    refine ⟨by omega, _, rfl, fun b o nb e => ?_, g4, by rw [upd_ne neL]; exact hL2⟩
    rw [upd_ne (show b ≠ a from fun z => nb (by rw [z]; exact mem))]
    exact kp b o nb e
  · have ei : i = cnt t := by omega
    subst ei
    refine .inl ⟨Nat.le_refl _, ?_⟩
    have sub2 : Sub G H2 := fun a o e => kp a o (fun m => by rw [nG a m] at e; cases e) (c.sub a o e)
    have rq : Rq K H2 v (markT t).data := o2.sealed sub2 fun _ _ _ e => e
    obtain ⟨h1, h2, h3, h4⟩ := hr
    refine ⟨v, rfl, v, _, rfl, rq.dp h1, h2, h3, h4, ?_⟩
    refine kk _ [markT t] _ G H2 fp [] ⟨rfl, sub2, fun i u hu => ?_, fun i hn => c.nil i fun u hu => ?_, c.dis⟩ ⟨Sub.refl G, fun a o n e => kp a o (fun m => n ⟨0, m⟩) e, fun a o _ _ g => g⟩ (fun a m => .inl m) (.dat (.str _)) (fun _ z => nomatch z) (fun _ z => nomatch z) hq
    · cases i with
      | zero =>
        have : u = markT t := by simpa using hu.symm
        subst this
        exact ⟨v, rfl, o2⟩
      | succ i => simp at hu
    · cases i with
      | zero => exact hn (markT t) rfl
      | succ i => simp at hu
end
section
variable {P : Program} {w : World} {K : PySem.W.Frag} {mg : Str → Option Value} {base : Heap} {f : Addr} {fd : FuncData} {x qual : Str} {params : Arguments} {body : List Stmt} {scope : Scope} {N ps : List Str} {k : Nat}
theorem mark_fn {Ex : XK} (F0 : FunD K x qual params body scope [] [] f fd) (S : FnScope N ps scope) (hN : N.length = 3) (hp : ps.length = 1)
    (hbody : ∀ (cdv : Value) (A : Around) (outer : List Env) (s : Shared) (H : Hp) (E : XK), RoomG k (A.deeper (envOfC qual scope s.heap.objs.size f cdv)) → PSs (cxOf CX0 P w K mg base N qual scope f cdv A outer s H E).nox body (tMark K Ex)) :
    FnG P w K mg base CX0 (k + 1) f fd ps (spD K cMark) := by
  obtain ⟨oc, od, dV, kV, doc, pm, an, cdv, ct, osl, rfl, lk, hcd, _, _⟩ := F0.ex
  have one : ∀ vs H Q E, spD K cMark vs H Q E → vs.length = 1 := fun vs H Q E ⟨G, as, fp, Qd, c, ⟨t, e, _⟩, _⟩ => by
    have := c.len
    rw [e] at this
    simpa using this
  refine fn_ofG lk hcd S (fun vs H Q E h => by rw [hp]; exact one vs H Q E h) fun A outer s H vs Q E hr h => ⟨_, (hbody cdv A outer s H E hr).nox, ?_⟩
  have e : L2.start N vs = vs.map some ++ [none, none] := by
    unfold L2.start
    rw [hN, one _ _ _ _ h]
    rfl
  rw [e]
  exact mark_walk h
end
end DL

namespace DL
open PySem PySem.Spec PyProof.Rows L2
/-! ### a tree's text, and the marked one's -/
mutual
def okS : SV → Bool
  | .dat d => d.pure && shw d.py
  | .own ts => okSs ts
  | .ob _ _ => false
  | .tp ts => okSs ts
def okSs : List SV → Bool
  | [] => true
  | t :: r => okS t && okSs r
end
mutual
def szT : SV → Nat
  | .dat d => (shD d).length
  | .own ts => szTs ts + 3
  | .ob _ _ => 0
  | .tp ts => szTs ts + 3
def szTs : List SV → Nat
  | [] => 0
  | t :: r => szT t + 2 + szTs r
end
mutual
def dpT : SV → Nat
  | .dat d => d.py.depth
  | .own ts => dpTs ts + 1
  | .ob _ _ => 0
  | .tp ts => dpTs ts + 1
def dpTs : List SV → Nat
  | [] => 0
  | t :: r => max (dpT t) (dpTs r)
end
mutual
theorem szT_ok : ∀ (t : SV), okS t = true → t.data.pure = true ∧ shw t.data.py = true ∧ (shD t.data).length ≤ szT t ∧ t.data.py.depth ≤ dpT t
  | .dat d, h => by
    rw [okS] at h
    have := Bool.and_eq_true_iff.mp h
    simp only [data_dat]
    exact ⟨this.1, this.2, Nat.le_refl _, Nat.le_refl _⟩
  | .own ts, h => by
    rw [okS] at h
    obtain ⟨h1, h2, h3, h4, h5⟩ := szTs_ok ts h
    refine ⟨h1, h2, ?_, ?_⟩
    · have := listText_len_le (PyData.shownAll (DD.pys (SV.datas ts)))
      rw [h4] at this
      show (listText (PyData.shownAll (DD.pys (SV.datas ts)))).length ≤ szTs ts + 3
      omega
    · show PyData.depthAll (DD.pys (SV.datas ts)) + 1 ≤ dpTs ts + 1
      omega
  | .ob _ _, h => by rw [okS] at h; cases h
  | .tp ts, h => by
    rw [okS] at h
    obtain ⟨h1, h2, h3, h4, h5⟩ := szTs_ok ts h
    refine ⟨h1, h2, ?_, ?_⟩
    · have := tupleText_len_le (PyData.shownAll (DD.pys (SV.datas ts)))
      rw [h4] at this
      show (tupleText (PyData.shownAll (DD.pys (SV.datas ts)))).length ≤ szTs ts + 3
      omega
    · show PyData.depthAll (DD.pys (SV.datas ts)) + 1 ≤ dpTs ts + 1
      omega
theorem szTs_ok : ∀ (ts : List SV), okSs ts = true → DD.pures (SV.datas ts) = true ∧ shws (DD.pys (SV.datas ts)) = true ∧ ((PyData.shownAll (DD.pys (SV.datas ts))).map (·.length)).sum + 2 * ts.length ≤ szTs ts ∧ (PyData.shownAll (DD.pys (SV.datas ts))).length = ts.length ∧ PyData.depthAll (DD.pys (SV.datas ts)) ≤ dpTs ts
  | [], _ => ⟨rfl, rfl, Nat.le_refl _, rfl, Nat.le_refl _⟩
  | t :: r, h => by
    rw [okSs] at h
    have h := Bool.and_eq_true_iff.mp h
    obtain ⟨a1, a2, a3, a4⟩ := szT_ok t h.1
    obtain ⟨b1, b2, b3, b4, b5⟩ := szTs_ok r h.2
    have a3' : (PyData.shown t.data.py).length ≤ szT t := a3
    refine ⟨by simp [SV.datas, DD.pures, a1, b1], by simp [SV.datas, DD.pys, shws, a2, b2], ?_, by simp [SV.datas, DD.pys, PyData.shownAll, b4], ?_⟩
    · simp only [SV.datas, DD.pys, PyData.shownAll, List.map_cons, List.sum_cons, List.length_cons, szTs]
      omega
    · simp only [SV.datas, DD.pys, PyData.depthAll, dpTs]
      omega
end
theorem okSs_app : ∀ (l m : List SV), okSs (l ++ m) = (okSs l && okSs m)
  | [], m => by simp [okSs]
  | t :: r, m => by rw [List.cons_append, okSs, okSs, okSs_app r m, Bool.and_assoc]
theorem szTs_app : ∀ (l m : List SV), szTs (l ++ m) = szTs l + szTs m
  | [], m => by simp [szTs]
  | t :: r, m => by rw [List.cons_append, szTs, szTs, szTs_app r m]; omega
theorem dpTs_app : ∀ (l m : List SV), dpTs (l ++ m) = max (dpTs l) (dpTs m)
  | [], m => by simp [dpTs]
  | t :: r, m => by rw [List.cons_append, dpTs, dpTs, dpTs_app r m]; omega
theorem int_rz {b : Nat} (h : b < 2 ^ 24) : Rz 1921 0 (.int b) := Rz.int (by
  unfold Sm
  simp only [Int.natAbs_natCast]
  exact Nat.lt_of_lt_of_le h (Nat.pow_le_pow_right (by decide) (by decide)))
mutual
theorem mk_ok (k : Nat) : ∀ (b : Nat) (t : SV), okS t = true → b + cnt t < 2 ^ 24 → okS (mk k b t) = true ∧ szT (mk k b t) ≤ szT t + cnt t * 1923 ∧ dpT (mk k b t) = dpT t
  | _, .dat d, h, _ => by rw [mk]; exact ⟨h, by omega, rfl⟩
  | b, .own ts, h, hb => by
    rw [okS] at h
    simp only [cnt] at hb
    obtain ⟨h1, h2, h3⟩ := mks_ok k (b + 1) ts h (by omega)
    rw [mk]
    have z := int_rz (b := b) (by omega)
    by_cases q : b < k
    · rw [if_pos q]
      refine ⟨?_, ?_, ?_⟩
      · rw [okS, okSs_app, h1]
        simp [okSs, okS, z.p, z.s]
      · simp only [szT, cnt]
        rw [szTs_app]
        have := z.l
        simp only [szTs, szT]
        omega
      · simp only [dpT]
        rw [dpTs_app, h3]
        have := z.e
        simp only [dpTs, dpT]
        omega
    · rw [if_neg q, List.append_nil]
      refine ⟨by rw [okS]; exact h1, ?_, by simp only [dpT, h3]⟩
      simp only [szT, cnt]
      omega
  | _, .ob _ _, h, _ => by rw [okS] at h; cases h
  | b, .tp ts, h, hb => by
    rw [okS] at h
    simp only [cnt] at hb
    obtain ⟨h1, h2, h3⟩ := mks_ok k b ts h hb
    rw [mk]
    refine ⟨by rw [okS]; exact h1, ?_, by simp only [dpT, h3]⟩
    simp only [szT, cnt]
    omega
theorem mks_ok (k : Nat) : ∀ (b : Nat) (ts : List SV), okSs ts = true → b + cnts ts < 2 ^ 24 → okSs (mks k b ts) = true ∧ szTs (mks k b ts) ≤ szTs ts + cnts ts * 1923 ∧ dpTs (mks k b ts) = dpTs ts
  | _, [], _, _ => by rw [mks]; exact ⟨rfl, by omega, rfl⟩
  | b, t :: r, h, hb => by
    rw [okSs] at h
    have h := Bool.and_eq_true_iff.mp h
    simp only [cnts] at hb
    obtain ⟨a1, a2, a3⟩ := mk_ok k b t h.1 (by omega)
    obtain ⟨b1, b2, b3⟩ := mks_ok k (b + cnt t) r h.2 (by omega)
    rw [mks]
    refine ⟨by rw [okSs, a1, b1]; rfl, ?_, by rw [dpTs, dpTs, a3, b3]⟩
    simp only [szTs, cnts, Nat.add_mul]
    omega
end
/-- both texts can be told -/
theorem tree_okR {t : SV} (h : okS t = true) (hn : szT t + cnt t * 1923 ≤ 2 ^ 24) (hc : cnt t < 2 ^ 20) (hd : dpT t ≤ 60) : okR t.data ∧ okR (markT t).data := by
  obtain ⟨a1, a2, a3, a4⟩ := szT_ok t h
  obtain ⟨m1, m2, m3⟩ := mk_ok (cnt t) 0 t h (by omega)
  obtain ⟨b1, b2, b3, b4⟩ := szT_ok (markT t) m1
  unfold markT at *
  exact ⟨⟨a1, a2, by show _ ≤ 2 ^ 24; omega, by omega⟩, ⟨b1, b2, by show _ ≤ 2 ^ 24; omega, by omega⟩⟩
/-! rows of lists of ints and of fractions -/
inductive Itm where
  | L (l : List Int)
  | R (q : Rat)
def Itm.d : Itm → DD
  | .L l => dI l
  | .R q => rT q
def Itm.t : Itm → SV
  | .L l => oI l
  | .R q => .dat (rT q)
def Itm.ok : Itm → Prop
  | .L l => l.length ≤ 1000 ∧ ∀ c ∈ l, Sm 1900 c
  | .R q => Qb 1900 q
theorem cps_ints : ∀ l : List Int, cps (l.map .int) = tI l
  | [] => rfl
  | c :: l => by
    have := cps_ints l
    simp only [List.map_cons, cps, cp, this, tI]
theorem cp_dI (l : List Int) : cp (dI l) = oI l := by
  unfold dI
  rw [cp, cps_ints]
  rfl
theorem cp_rT (q : Rat) : cp (rT q) = .dat (rT q) := by
  unfold rT
  rw [cp]
  exact if_pos (by simp only [noLs, noL]; rfl)
theorem Itm.cp_eq (i : Itm) : cp i.d = i.t := by
  cases i with
  | L l => exact cp_dI l
  | R q => exact cp_rT q
theorem cp_items (is : List Itm) : cp (.lst (is.map Itm.d)) = .own (is.map Itm.t) := by
  rw [cp, cps_eq, List.map_map]
  congr 1
  exact List.map_congr_left fun i _ => i.cp_eq
theorem okSs_ints : ∀ {l : List Int}, (∀ c ∈ l, Sm 1900 c) → okSs (tI l) = true ∧ szTs (tI l) ≤ l.length * 1923 ∧ dpTs (tI l) = 0 ∧ cnts (tI l) = 0
  | [], _ => ⟨rfl, Nat.zero_le _, rfl, rfl⟩
  | c :: l, h => by
    obtain ⟨h1, h2, h3, h4⟩ := okSs_ints fun x m => h x (List.mem_cons_of_mem _ m)
    have z := Rz.int ((h c List.mem_cons_self).mono (show 1900 ≤ 1920 by decide))
    have e : tI (c :: l) = .dat (.int c) :: tI l := rfl
    have zl := z.l
    have ze := z.e
    rw [e]
    refine ⟨by simp [okSs, okS, z.p, z.s, h1], ?_, ?_, by simp [cnts, cnt, h4]⟩
    · simp only [szTs, szT, List.length_cons]
      omega
    · simp only [dpTs, dpT]
      omega
theorem Itm.facts {i : Itm} (h : i.ok) : okS i.t = true ∧ szT i.t ≤ 1923010 ∧ dpT i.t ≤ 2 ∧ cnt i.t ≤ 1 := by
  cases i with
  | L l =>
    obtain ⟨h1, h2, h3, h4⟩ := okSs_ints h.2
    have := h.1
    refine ⟨h1, ?_, ?_, ?_⟩
    · show szTs (tI l) + 3 ≤ _
      omega
    · show dpTs (tI l) + 1 ≤ 2
      omega
    · show cnts (tI l) + 1 ≤ 1
      omega
  | R q =>
    have z := Rz.rat (Qb.mono h (show 1900 ≤ 1920 by decide))
    have zl := z.l
    have ze := z.e
    refine ⟨by simp [Itm.t, okS, z.p, z.s], ?_, ?_, Nat.zero_le _⟩
    · show (shD (rT q)).length ≤ _
      omega
    · show (rT q).py.depth ≤ 2
      omega
theorem items_facts : ∀ {is : List Itm}, (∀ i ∈ is, i.ok) → okSs (is.map Itm.t) = true ∧ szTs (is.map Itm.t) ≤ is.length * 1923012 ∧ dpTs (is.map Itm.t) ≤ 2 ∧ cnts (is.map Itm.t) ≤ is.length
  | [], _ => ⟨rfl, Nat.zero_le _, Nat.zero_le _, Nat.zero_le _⟩
  | i :: is, h => by
    obtain ⟨a1, a2, a3, a4⟩ := Itm.facts (h i List.mem_cons_self)
    obtain ⟨b1, b2, b3, b4⟩ := items_facts fun x m => h x (List.mem_cons_of_mem _ m)
    refine ⟨by simp [okSs, a1, b1], ?_, ?_, ?_⟩
    · simp only [List.map_cons, szTs, List.length_cons]
      omega
    · simp only [List.map_cons, dpTs]
      omega
    · simp only [List.map_cons, cnts, List.length_cons]
      omega
theorem okC_ints {n : Nat} {l : List Int} (h : l.length ≤ 1000) : okC (n + 2) (dI l) := ⟨by simp; omega, fun d m => by
  obtain ⟨c, _, rfl⟩ := List.mem_map.mp m
  exact trivial⟩
theorem okC_rat {n : Nat} {q : Rat} : okC (n + 2) (rT q) := ⟨by simp, fun d m => by
  rcases List.mem_cons.mp m with rfl | m
  · exact trivial
  · have : d = .int q.den := by simpa using m
    subst this
    exact trivial⟩
theorem okT_ints {n : Nat} {l : List Int} (h : l.length ≤ 1000) : okT (n + 2) (oI l) := ⟨by simp; omega, fun d m => by
  obtain ⟨c, _, rfl⟩ := List.mem_map.mp m
  exact ⟨trivial, rfl⟩⟩
theorem okT_rat {n : Nat} {q : Rat} : okT (n + 2) (.dat (rT q)) := ⟨⟨by simp, by simp [labs, labD], fun d m => by
  rcases List.mem_cons.mp m with rfl | m
  · exact trivial
  · have : d = .int q.den := by simpa using m
    subst this
    exact trivial⟩, by simp [rT, labD, labs]⟩
/-- what the comparison of rows asks for -/
theorem items_right {is : List Itm} (h : ∀ i ∈ is, i.ok) (hn : is.length ≤ 8) : okC 8 (.lst (is.map Itm.d)) ∧ okT 8 (cp (.lst (is.map Itm.d))) ∧ cnt (cp (.lst (is.map Itm.d))) < 2 ^ 20 ∧ okR (.lst (is.map Itm.d)) ∧ okR (markT (cp (.lst (is.map Itm.d)))).data := by
  obtain ⟨a1, a2, a3, a4⟩ := items_facts h
  have e := cp_items is
  have key := tree_okR (t := cp (.lst (is.map Itm.d))) (by rw [e]; exact a1) (by rw [e]; simp only [szT, cnt]; omega) (by rw [e]; simp only [cnt]; omega) (by rw [e]; simp only [dpT]; omega)
  rw [cp_data] at key
  refine ⟨⟨by simp; omega, fun d m => ?_⟩, ?_, by rw [e]; simp only [cnt]; omega, key.1, key.2⟩
  · obtain ⟨i, hi, rfl⟩ := List.mem_map.mp m
    have := h i hi
    cases i with
    | L l => exact okC_ints this.1
    | R q => exact okC_rat
  · rw [e]
    refine ⟨by simp; omega, fun t m => ?_⟩
    obtain ⟨i, hi, rfl⟩ := List.mem_map.mp m
    have := h i hi
    cases i with
    | L l => exact okT_ints this.1
    | R q => exact okT_rat
theorem addP_comm : ∀ l m : List Int, addP l m = addP m l
  | [], [] => rfl
  | [], b :: m => rfl
  | a :: l, [] => rfl
  | a :: l, b :: m => by rw [addP, addP, addP_comm l m, Int.add_comm]
theorem rg_get {n i : Nat} {d : DD} (h : (rgD 0 1 n)[i]? = some d) : d = .int i ∧ i < n := by
  unfold rgD at h
  rw [List.getElem?_map] at h
  by_cases hi : i < n
  · rw [List.getElem?_range hi] at h
    simp at h
    exact ⟨h.symm, hi⟩
  · rw [List.getElem?_eq_none (by simpa using hi)] at h
    cases h
theorem evalR_qb2 {A B : Nat} {x : Rat} (hx : Qb B x) {l : List Int} (sl : ∀ c ∈ l, Sm A c) : Qb ((A + B + 1) * l.length + 1) (evalR l x) := by
  rw [← partsP_eval]
  obtain ⟨h1, _⟩ := hA_bd hx sl
  refine Qb.of ?_ ?_ (partsP_ne l x)
  · unfold partsP
    split
    · exact Nat.pow_pos (by decide)
    · exact h1.mono (by omega)
  · rw [partsP_den]
    refine (hx.d.pow _).mono ?_
    have := Nat.mul_le_mul (show B ≤ A + B + 1 by omega) (show l.length - 1 ≤ l.length by omega)
    omega
theorem mulG_one : ∀ (l pre : List Int), mulG [1] pre.length l (pre ++ List.replicate l.length 0) = pre ++ l
  | [], pre => by simp [mulG]
  | a :: l, pre => by
    have e : rowP a pre.length [1] (pre ++ List.replicate (a :: l).length 0) = (pre ++ [a]) ++ List.replicate l.length 0 := by
      simp [rowP, bump, List.replicate_succ, List.set_append]
    have ih := mulG_one l (pre ++ [a])
    rw [mulG, e]
    rw [List.length_append] at ih
    simp only [List.length_cons, List.length_nil, Nat.zero_add] at ih
    rw [ih]
    simp
theorem mulP_one (l : List Int) : mulP l [1] = l := by
  have := mulG_one l []
  unfold mulP
  simpa using this
theorem addP_nil (l : List Int) : addP l [] = l := by cases l <;> rfl
theorem nil_addP (l : List Int) : addP [] l = l := rfl
theorem PL.tail {l : List Int} (h : PL l) {n : Int} (h0 : 0 ≤ n) (h1 : n < 5) : PL (l.take 6 ++ [n - 2, 1]) := ⟨by simp; omega, app_bd (take_bd h.b) fun c m => by
  simp at m
  omega, by simp⟩
theorem Itm.ok_PL {l : List Int} (h : PL l) : Itm.ok (.L l) := ⟨by have := h.n; omega, h.b.sm (by decide)⟩
end DL

namespace DL
open PySem PySem.Spec PyProof.Rows L2
/-! ### a law's end -/
/-- the script: a list of the heap, or one of the written part -/
def scr (b : Bool) (ns : List Int) : DD := if b = true then .lst (ns.map .int) else .klst (ns.map .int)
@[simp] theorem scr_t (ns : List Int) : scr true ns = .lst (ns.map .int) := rfl
@[simp] theorem scr_f (ns : List Int) : scr false ns = .klst (ns.map .int) := rfl
def cLawS : Ctr := fun as Q => ∃ (ns : List Int) (b : Bool), as = [.dat (scr b ns)] ∧ (∀ z ∈ ns, Sm 1048576 z) ∧ ns.length ≤ 63 ∧ Q (.dat (.bl true)) as
theorem rq_ints {K : PySem.W.Frag} {G : Hp} : ∀ ns : List Int, RqA K G (ns.map V.int) (ns.map DD.int)
  | [] => .nil
  | i :: ns => .cons (.int i) (rq_ints ns)
section
variable {P : Program} {w : World} {K : PySem.W.Frag} {mg mb : Str → Option Value} {k : Nat} {fa a : Addr} {fd : FuncData} {x : Str} {F : Ctr}
/-- the promise at a heap that tracks the script at most -/
theorem at_script {H : Hp} {ns : List Int} (hF : ∀ as Q, cLawS as Q → F as Q) (hz : ∀ z ∈ ns, Builtin.Int.intBits z ≤ 1048576) (hn : ns.length ≤ 63) (hS : SqL K H a (ns.map V.int)) (E : XK) : spD K F [.ref a] H (fun v _ => v = .bl true) E := by
  have key : ∀ b, Rq K H (.ref a) (scr b ns) → spD K F [.ref a] H (fun v _ => v = .bl true) E := fun b r =>
    ⟨H, [.dat (scr b ns)], fun _ => [], fun r _ => r = .dat (.bl true), ⟨rfl, fun _ _ z => z, fun i t e => by
      cases i with
      | zero =>
        have : t = .dat (scr b ns) := by simpa using e.symm
        subst this
        exact ⟨.ref a, rfl, .dat r⟩
      | succ i => simp at e, fun _ _ => rfl, fun _ _ _ z => nomatch z⟩, hF _ _ ⟨ns, b, rfl, fun z m => Sm.of_bits (hz z m), hn, rfl⟩, fun r as' v G' H' fp' fr _ _ _ o _ _ e => by
        subst e
        exact o.dat_inv.1.bl_inv⟩
  rcases hS with h | h
  · exact key true (.lst h (rq_ints ns))
  · exact key false (.klst (.inr h) (rq_ints ns))
theorem call_at {H : Hp} {s1 : Shared} (KX : K.In s1.heap) (hns : s1.heap.Ns mainGlobals mg) (hb : s1.heap.Ns builtinsNs mb) (hbb : ∀ y : Str, y ≠ "__name__" → mb y = bootBuiltins y) (hlim : s1.heap.NoLimit) (hg : s1.gens = #[])
    (hl : ∀ (o : Obj), s1.heap.get? a = some o → ∀ es ep, o.data ≠ .dict es ep) (hr : RoomG k callerA)
    (HF : ∀ base : Heap, K.In base → base.Ns mainGlobals mg → FnG P w K mg base CX0 k fa fd [x] (spD K F)) (hbind : ∀ (s : Shared) (u : Value), BindsTo s fd ⟨[u], []⟩ [(x, u)])
    (hO : ∀ b, H b = none ∨ b = a ∧ K.lookup a = none ∧ ∃ o xs, H b = some (.frz o (.lst xs))) (hok : HOk P w H s1.heap) (hsp : spD K F [.ref a] H (fun v _ => v = .bl true) fun _ _ _ => False) :
    codeAny (model P w) callerA (.call (.ref fa) ⟨[.ref a], []⟩) (fun r s' => r = .ok (.ret (.bool true)) ∧ OldK s1.heap s'.heap ∧ s'.os = s1.os ∧ AllBare s'.gens) s1 := by
  have away : ∀ {b : Addr} {o : Obj}, s1.heap.get? b = some o → H b = none → (hidT s1.heap H).get? b = some o := fun e z => hidT_get e z
  have dictN : ∀ {b : Addr} {o : Obj} {es : Array DictEntry} {ep : Nat}, s1.heap.get? b = some o → o.data = .dict es ep → H b = none := fun {b o es ep} e d => by
    rcases hO b with z | ⟨rfl, _, _⟩
    · exact z
    · exact absurd d (hl o e es ep)
  have names : ∀ {b : Addr} {m : Str → Option Value}, s1.heap.Ns b m → (hidT s1.heap H).Ns b m := fun {b m} ⟨o, es, ep, e, d, r⟩ => ⟨o, es, ep, away e (dictN e d), d, r⟩
  have inK : K.In (hidT s1.heap H) := fun b o e => away (KX b o e) (by
    rcases hO b with z | ⟨rfl, z, _⟩
    · exact z
    · rw [z] at e; cases e)
  obtain ⟨mc, l1, l2⟩ := hlim
  have mod : Mod K mg (hidT s1.heap H) := ⟨inK, names hns, ⟨mb, names hb, hbb⟩, mc, names l1, l2⟩
  have env : Env0 P w K mg (hidT s1.heap H) callerA [] s1 H := ⟨rfl, mod, fun b o e => of_hidT e, Nat.le_of_eq (hidT_size _ _), trivial, fun b m => (nomatch m), hok, .of_eq hg⟩
  have run := (HF _ inK (names hns)).run callerA [] s1 H ⟨[.ref a], []⟩ [.ref a] [.ref a] _ _ hr env (hbind s1 (.ref a)) (.cons rfl .nil) hsp
  refine codeAny_mono run fun r s2 q => ?_
  match r, q with
  | .ok (.ret u), ⟨v, H2, os, bare, un, ok2, rel, e⟩ =>
    have e' : v = .bl true := e
    subst e'
    cases rel
    refine ⟨rfl, OldK.of_keep fun b o e => ?_, os, bare⟩
    rcases hO b with z | ⟨rfl, _, ob, xs, z⟩
    · exact un.keep b o e z (fun m => nomatch m) (fun m => nomatch m)
    · obtain ⟨e1, _⟩ := hok _ _ z
      obtain ⟨e2, _⟩ := ok2 _ _ (un.frzs _ ob _ z)
      rw [e] at e1; cases e1
      exact e2
  | .ok .next, q => exact q.elim
  | .ok .brk, q => exact q.elim
  | .ok .cont, q => exact q.elim
  | .error e, q => exact q.elim
theorem fn_void {base : Heap} {ps : List Str} {f : Addr} {C : Ctr} (h : ∀ as Q, ¬ C as Q) : FnG P w K mg base CX0 k f fd ps (spD K C) :=
  ⟨fun vs H Q E ⟨G, as, fp, Qd, c, hC, _⟩ => (h _ _ hC).elim, fun A outer s H args us vs Q E _ _ _ _ ⟨G, as, fp, Qd, c, hC, _⟩ => (h _ _ hC).elim⟩
theorem walk_ofG {l : PySem.W.OpenLaw} {n : Nat} {q : Program} {loose : List Str} {XP : (Str → Option Value) → Heap → Prop} {YP : World → Heap → Prop} {d : DefRec} (hn : l.most = some n) (hn2 : n ≤ 63) (hdf : d.params.defaults = []) (hr : RoomG k callerA)
    (HF : ∀ (w : World) (mg : Str → Option Value) (fa : Addr) (h : Heap), YP w h → h.Ns mainGlobals mg → mg d.name = some (.ref fa) →
      ∃ (K : PySem.W.Frag) (fd : FuncData) (F : Ctr), K.In h ∧ (∀ (s : Shared) (u : Value), BindsTo s fd ⟨[u], []⟩ [(x, u)]) ∧ (∀ as Q, cLawS as Q → F as Q) ∧
        ∀ base : Heap, K.In base → base.Ns mainGlobals mg → FnG l.prog w K mg base CX0 k fa fd [x] (spD K F)) :
    PySem.W.WalkO q loose XP YP l.row.toRowW d [] (fun f vs => PySem.call f vs) := by
  refine Att.attach_callB hn hdf fun w s0 s1 mg mb fa o pm cd doc a vs ns G Y ho hd hcd hmg hobj hints hlen hbits hg => ?_
  obtain ⟨K, fd, F, KX, hb, hF, HG⟩ := HF w mg fa _ Y G.T.g hmg
  have rv := vals_ints hints
  have lenV := hints.length
  have size : ns.length ≤ sizeLine := Nat.le_trans hlen (Nat.le_trans hn2 (by decide))
  have nod : ∀ o : Obj, s1.heap.get? a = some o → ∀ es ep, o.data ≠ .dict es ep := fun o e es ep z => by
    rw [hobj] at e; cases e
    cases (show Data.seq vs.toArray _ = Data.dict es ep from z)
  cases hk : K.lookup a with
  | some u =>
    have e := KX a u hk
    rw [hobj] at e; cases e
    refine call_at (H := fun _ => none) KX G.T.g G.T.b G.T.builtins G.T.nolimit hg nod hr HG hb (fun b => .inl rfl) (fun b u z => by cases z) ?_
    exact at_script hF hbits (Nat.le_trans hlen hn2) (.inr ⟨_, vs.toArray, _, hk, rfl, rfl, rfl, by rw [List.size_toArray, lenV]; exact size, by simpa using rv⟩) _
  | none =>
    refine call_at (H := fun b => if b = a then some (.frz { cls := .type "list", data := .seq vs.toArray } (.lst (ns.map V.int))) else none) KX G.T.g G.T.b G.T.builtins G.T.nolimit hg nod hr HG hb (fun b => ?_) (fun b u z => ?_) ?_
    · by_cases q : b = a
      · exact .inr ⟨q, hk, _, _, if_pos q⟩
      · exact .inl (if_neg q)
    · dsimp only at z
      by_cases q : b = a
      · rw [if_pos q] at z
        cases z
        subst q
        exact ⟨hobj, by rw [List.length_map]; exact size, vs, _, rv, hobj⟩
      · rw [if_neg q] at z; cases z
    · exact at_script hF hbits (Nat.le_trans hlen hn2) (.inl (.inr ⟨_, if_pos rfl⟩)) _
end
end DL

namespace DL
open PySem PySem.Spec PyProof.Rows L2
/-! a, b = x, y with a cell among the names: a tuple is made and taken apart, the trees stay owned -/
theorem s_un2 {X : Cx} {io : List Nat} {i j : Nat} {x y : Str} {a b : Expr} {fs : FSs} {px py pt pos : Pos} {kt k2 : Nat} {pt2 : Pos} (hc : X.calm = true) (hN : X.N.Nodup) (h : PDs' X io [a, b] fs) (hi : X.N[i]? = some x := by rfl) (hj : X.N[j]? = some y := by rfl)
    (hx : Loc X.env.scope x := by first | exact Or.inl rfl | exact Or.inr rfl) (hy : Loc X.env.scope y := by first | exact Or.inl rfl | exact Or.inr rfl)
    (fx : X.fn x = true ∨ X.env.scope.names.lookup x = some .local := by first | exact .inl rfl | exact .inr rfl) (fy : X.fn y = true ∨ X.env.scope.names.lookup y = some .local := by first | exact .inl rfl | exact .inr rfl)
    (hs : swapsWithSole [.Tuple [.Name x px, .Name y py] kt pt] (.Tuple [a, b] k2 pt2) pos.line X.env = pure false := by rfl) (hw : swappedStores [.Tuple [.Name x px, .Name y py] kt pt] (.Tuple [a, b] k2 pt2) X.env = pure none := by rfl)
    (h1 : (assignEach [.Tuple [.Name x px, .Name y py] kt pt] X.env).map (·.2) = [assign (.Tuple [.Name x px, .Name y py] kt pt) X.env] := by rfl)
    (c1 : (assignEach [.Name x px, .Name y py] X.env).map (·.2) = assign (.Name x px) X.env :: (assignEach [.Name y py] X.env).map (·.2) := by rfl) (c2 : (assignEach [.Name y py] X.env).map (·.2) = assign (.Name y py) X.env :: (assignEach [] X.env).map (·.2) := by rfl)
    (hn : (assignEach [.Name x px, .Name y py] X.env).length = 2 := by rfl) (hst : (assignEach [.Name x px, .Name y py] X.env).findIdx? (·.1) = none := by rfl) :
    PDs X io (.Assign [.Tuple [.Name x px, .Name y py] kt pt] (.Tuple [a, b] k2 pt2) pos) (fPar io i j fs) := by
  obtain ⟨ta, a1, a2⟩ := h
  refine ⟨_, ps_asg (pe_tup a1) (pg_tup hc (pgs_cons (pg_name hN hi hx fx) (pgs_cons (pg_name hN hj hy fy) pgs_nil c2) c1) hn hst) hs hw h1, fun B G H σ ρ fp Dd Dh hB R hf s => ?_⟩
  refine a2 B G H σ ρ fp _ _ hB R hf fun ts ρ1 vs G1 H1 fp1 fr n os t1 t2 ⟨t, u, et, hi', hj', q⟩ => ?_
  subst et
  refine ⟨by rw [os.length]; show 2 ≤ sizeLine; decide, fun p hp => ?_⟩
  obtain ⟨v, w, f1, f2, rfl, o1, o2, d12, in1, in2⟩ := os.two
  have n2 := n.trans (Nxt.laid n.rp (o := .tup [v, w]) hp)
  have hb := R.base t2
  have up : ∀ {z : V} {e : SV} {f : List Addr}, OT X.K G1 H1 z e f → OT X.K G1 (upd H1 p (.tup [v, w])) z e f := fun o => o.mono (Sub.refl _) (fun b m e g => by
    rw [upd_ne (show b ≠ p from fun z => by rw [z, hp] at g; cases g)]; exact g) fun b m => (o.here b m).2
  have R1 := n2.rp.put (i := i) (by rw [hB]; exact hi') (up o1) (fun c m => t1 c (in1 c m)) (fun c m => hb c (in1 c m))
  have R2 := R1.put (i := j) (by rw [hB]; exact hj') (up o2) (out_put (fun c m => t1 c (in2 c m)) d12) (fun c m => hb c (in2 c m))
  exact ⟨p, [v, w], rfl, .inl (.inl upd_same), rfl, v, [w], rfl, w, [], rfl, rfl, s.nx _ _ _ _ _ R2 q⟩
end DL

namespace DL
open PySem PySem.Spec PyProof.Rows L2
/-! ### sum, max of a list of ints -/
theorem RqA.ints_inv {K : PySem.W.Frag} {G : Hp} : ∀ {ns : List Int} {vs : List V}, RqA K G vs (ns.map DD.int) → vs = ns.map V.int
  | [], _, h => by cases h; rfl
  | n :: ns, _, h => by
    cases h with
    | cons a b => rw [a.int_inv, RqA.ints_inv b]; rfl
@[simp] def oSum : OpN := fun ds P => ∃ ns : List Int, ds = [.lst (ns.map .int)] ∧ P (.int ns.sum)
theorem p_sum {X : Cx} {io : List Nat} {p pos : Pos} {e : Expr} {fos : FOs} (hc : X.calm = true) (hm : X.mg "sum" = none) (ha : PDos X io [e] fos) (hg : Gl X "sum" := by rfl) (he : starEach [e] X.env = (false, eval e X.env) :: starEach [] X.env := by rfl) : PDv X io (.Call (.Name "sum" p) [e] [] pos) (fCB oSum fos) :=
  p_cb (cr_sum hc) (fun H xs ds P Q hx h k => by
    obtain ⟨ns, rfl, q⟩ := h
    obtain ⟨x, rfl, r⟩ := hx.one
    obtain ⟨a, ys, rfl, h, r⟩ := r.lst_inv
    have := r.ints_inv
    subst this
    exact ⟨a, ns, rfl, .inl h, k _ _ q (.int _)⟩) hm (by decide +kernel) ha hg (by decide) (by decide) he
/-! ### an expression that only looks: all that is held stands still meanwhile -/
def frzR (ρ : Rho) : Rho := ρ.map (Option.map fun t => SV.dat t.data)
@[simp] theorem frzR_nil : frzR [] = [] := rfl
@[simp] theorem frzR_some (t : SV) (ρ : Rho) : frzR (some t :: ρ) = some (.dat t.data) :: frzR ρ := rfl
@[simp] theorem frzR_none (ρ : Rho) : frzR (none :: ρ) = none :: frzR ρ := rfl
mutual
/-- nothing within is a list or an instance that is only told as data -/
def flatT : SV → Bool
  | .dat d => noL d
  | .own ts => flatTs ts
  | .ob _ fs => flatTf fs
  | .tp ts => flatTs ts
def flatTs : List SV → Bool
  | [] => true
  | t :: r => flatT t && flatTs r
def flatTf : List (Str × SV) → Bool
  | [] => true
  | (_, t) :: r => flatT t && flatTf r
end
theorem flatTs_all : ∀ {ts : List SV}, (∀ t ∈ ts, flatT t = true) → flatTs ts = true
  | [], _ => rfl
  | t :: r, h => by rw [flatTs, h t List.mem_cons_self, flatTs_all fun x m => h x (List.mem_cons_of_mem _ m)]; rfl
mutual
theorem Rq.noL {K : PySem.W.Frag} {G F : Hp} (tt : ∀ a xs, SqT K G a xs → SqT K F a xs) : ∀ {v : V} {d : DD}, Rq K G v d → DL.noL d = true → Rq K F v d
  | _, _, .non, _ => .non
  | _, _, .bl b, _ => .bl b
  | _, _, .int i, _ => .int i
  | _, _, .str x, _ => .str x
  | _, _, .tup h a, l => .tup (tt _ _ h) (RqA.noL tt a (by simpa only [DL.noL] using l))
  | _, _, .opq _, l => nomatch (show false = true from l)
  | _, _, .exc _ _, l => nomatch (show false = true from l)
  | _, _, .lst _ _, l => nomatch (show false = true from l)
  | _, _, .obj _ _, l => nomatch (show false = true from l)
  | _, _, .at_ _, l => nomatch (show false = true from l)
  | _, _, .klst _ _, l => nomatch (show false = true from l)
theorem RqA.noL {K : PySem.W.Frag} {G F : Hp} (tt : ∀ a xs, SqT K G a xs → SqT K F a xs) : ∀ {v : List V} {d : List DD}, RqA K G v d → DL.noLs d = true → RqA K F v d
  | _, _, .nil, _ => .nil
  | _, _, .cons a b, l => by
    rw [DL.noLs, Bool.and_eq_true] at l
    exact .cons (Rq.noL tt a l.1) (RqA.noL tt b l.2)
end
mutual
theorem OT.flat {K : PySem.W.Frag} {G F H : Hp} (tt : ∀ a xs, SqT K G a xs → SqT K F a xs) : ∀ {v : V} {t : SV} {fp : List Addr}, OT K G H v t fp → flatT t = true → (∀ a ∈ fp, F a = none) → OT K F H v t fp
  | _, _, _, .dat r, l, _ => .dat (r.noL tt (by simpa only [flatT] using l))
  | _, _, _, .own h g ts n, l, z => .own h (z _ List.mem_cons_self) (OTs.flat tt ts (by simpa only [flatT] using l) fun a m => z a (List.mem_cons_of_mem _ m)) n
  | _, _, _, .ob h hd g gd ts ne n nd, l, z => .ob h hd (z _ List.mem_cons_self) (z _ (List.mem_cons_of_mem _ List.mem_cons_self)) (OTf.flat tt ts (by simpa only [flatT] using l) fun a m => z a (List.mem_cons_of_mem _ (List.mem_cons_of_mem _ m))) ne n nd
  | _, _, _, .tp h ts, l, z => .tp (tt _ _ h) (OTs.flat tt ts (by simpa only [flatT] using l) z)
theorem OTs.flat {K : PySem.W.Frag} {G F H : Hp} (tt : ∀ a xs, SqT K G a xs → SqT K F a xs) : ∀ {v : List V} {t : List SV} {fp : List Addr}, OTs K G H v t fp → flatTs t = true → (∀ a ∈ fp, F a = none) → OTs K F H v t fp
  | _, _, _, .nil, _, _ => .nil
  | _, _, _, .cons a b d, l, z => by
    rw [flatTs, Bool.and_eq_true] at l
    exact .cons (OT.flat tt a l.1 fun x m => z x (List.mem_append_left _ m)) (OTs.flat tt b l.2 fun x m => z x (List.mem_append_right _ m)) d
theorem OTf.flat {K : PySem.W.Frag} {G F H : Hp} (tt : ∀ a xs, SqT K G a xs → SqT K F a xs) : ∀ {v : List (Str × V)} {t : List (Str × SV)} {fp : List Addr}, OTf K G H v t fp → flatTf t = true → (∀ a ∈ fp, F a = none) → OTf K F H v t fp
  | _, _, _, .nil, _, _ => .nil
  | _, _, _, .cons a b d, l, z => by
    rw [flatTf, Bool.and_eq_true] at l
    exact .cons (OT.flat tt a l.1 fun x m => z x (List.mem_append_left _ m)) (OTf.flat tt b l.2 fun x m => z x (List.mem_append_right _ m)) d
end
/-- what is held by one place is a list, an instance, or what belongs to it -/
def HO.fix : HO → Bool
  | .lst _ => true
  | .ins _ _ _ => true
  | .own _ => true
  | _ => false
mutual
theorem OT.kind {K : PySem.W.Frag} {G H : Hp} : ∀ {v : V} {t : SV} {fp : List Addr}, OT K G H v t fp → ∀ a ∈ fp, ∃ o, H a = some o ∧ HO.fix o = true
  | _, _, _, .dat _, a, m => by cases m
  | _, _, _, .own h g ts _, a, m => by
    rcases List.mem_cons.mp m with e | m
    · subst e; exact ⟨_, h, rfl⟩
    · exact OTs.kind ts a m
  | _, _, _, .ob h hd g gd ts _ _ _, a, m => by
    rcases List.mem_cons.mp m with e | m
    · subst e; exact ⟨_, h, rfl⟩
    · rcases List.mem_cons.mp m with e | m
      · subst e; exact ⟨_, hd, rfl⟩
      · exact OTf.kind ts a m
  | _, _, _, .tp h ts, a, m => OTs.kind ts a m
theorem OTs.kind {K : PySem.W.Frag} {G H : Hp} : ∀ {v : List V} {t : List SV} {fp : List Addr}, OTs K G H v t fp → ∀ a ∈ fp, ∃ o, H a = some o ∧ HO.fix o = true
  | _, _, _, .nil, a, m => by cases m
  | _, _, _, .cons x y _, a, m => (List.mem_append.mp m).elim (OT.kind x a) (OTs.kind y a)
theorem OTf.kind {K : PySem.W.Frag} {G H : Hp} : ∀ {v : List (Str × V)} {t : List (Str × SV)} {fp : List Addr}, OTf K G H v t fp → ∀ a ∈ fp, ∃ o, H a = some o ∧ HO.fix o = true
  | _, _, _, .nil, a, m => by cases m
  | _, _, _, .cons x y _, a, m => (List.mem_append.mp m).elim (OT.kind x a) (OTf.kind y a)
end
@[simp] def fFrz (fe : FE) : FE := fun ρ Q => fe (frzR ρ) fun r ρ' => ρ' = frzR ρ ∧ flatT r = true ∧ Q r ρ
theorem frz_get {ρ : Rho} {i : Nat} {t : SV} (h : (frzR ρ)[i]? = some (some t)) : ∃ u, ρ[i]? = some (some u) ∧ t = .dat u.data := by
  unfold frzR at h
  rw [List.getElem?_map] at h
  cases e : ρ[i]? with
  | none => rw [e] at h; cases h
  | some z =>
    rw [e] at h
    cases z with
    | none => simp at h
    | some u => simp at h; exact ⟨u, rfl, h.symm⟩
theorem frz_dat {ρ : Rho} {i : Nat} {u : SV} (h : ρ[i]? = some (some u)) : (frzR ρ)[i]? = some (some (.dat u.data)) := by
  unfold frzR
  rw [List.getElem?_map, h]
  rfl
/-- a run at frozen slots: nothing that is held changes -/
def DF (K : PySem.W.Frag) (io : List Nat) (te : TE) (fe : FE) : Prop := ∀ (B : Bs) G H σ ρ fp (Qd : SV → Prop) (Q : VK), B.io = io → Rp K B G H σ ρ fp → (fe (frzR ρ) fun r ρ' => ρ' = frzR ρ ∧ flatT r = true ∧ Qd r) →
  (∀ r v G' H' fr, Nxt K B σ G H fp G' H' ρ fp → (∀ a o, H a = some o → H' a = some o) → OT K G' H' v r fr → (∀ a ∈ fr, ¬ In fp a) → (∀ a ∈ fr, H a = none) → flatT r = true → Qd r → Q v H') → te σ H Q
theorem frz_core {K : PySem.W.Frag} {io : List Nat} {te : TE} {fe : FE} (h2 : DE K io te fe) : DF K io te fe := fun B G H σ ρ fp Qd Q hB R hf k => by
  classical
  let S : Hp := fun a => if In fp a then H a else G a
  have s1 : ∀ a, In fp a → S a = H a := fun a m => if_pos m
  have s2 : ∀ a, ¬ In fp a → S a = G a := fun a m => if_neg m
  have gs : Sub G S := fun a o e => by
    by_cases m : In fp a
    · rw [(R.co.here m).2] at e; cases e
    · rw [s2 a m]; exact e
  have sh : Sub S H := fun a o e => by
    by_cases m : In fp a
    · rw [s1 a m] at e; exact e
    · rw [s2 a m] at e; exact R.co.sub a o e
  have noIn : ∀ a, ¬ In (fun _ => ([] : List Addr)) a := fun a ⟨_, m⟩ => by cases m
  have co : Co K S H σ (frzR ρ) (fun _ => []) := ⟨by rw [R.co.len]; simp [frzR], sh, fun i t e => by
    obtain ⟨u, e1, rfl⟩ := frz_get e
    obtain ⟨v, e2, ot⟩ := R.co.slot i u e1
    exact ⟨v, e2, .dat (ot.sealed gs fun a m o q => by rw [s1 a ⟨i, m⟩]; exact q)⟩, fun _ _ => rfl, fun _ _ _ m => nomatch m⟩
  let B2 : Bs := ⟨B.vs, B.as, B.io, S, H, fun _ => [], S⟩
  have R2 : Rp K B2 S H σ (frzR ρ) (fun _ => []) := ⟨co, Stp.refl _ _, fun a m => absurd m (noIn a), fun i m => by
    obtain ⟨v, t, e1, e2, e3⟩ := R.io i m
    exact ⟨v, _, e1, e2, frz_dat e3⟩, Sub.refl _⟩
  refine h2 B2 S H σ (frzR ρ) (fun _ => []) _ Q hB R2 hf fun r ρ' v G' H' fp' fr n ot t1 t2 ⟨er, fl, q⟩ => ?_
  let G2 : Hp := fun a => if In fp a then none else G' a
  have g1 : ∀ a, In fp a → G2 a = none := fun a m => if_pos m
  have g2 : ∀ a, ¬ In fp a → G2 a = G' a := fun a m => if_neg m
  have fresh : ∀ a ∈ fr, H a = none := fun a m => (t2 a m).elim id fun z => absurd z (noIn a)
  have outF : ∀ a ∈ fr, ¬ In fp a := fun a m z => by
    obtain ⟨⟨o, e⟩, _⟩ := R.co.here z
    rw [fresh a m] at e; cases e
  have keep : ∀ a o, H a = some o → H' a = some o := fun a o e => n.st.keep a o (noIn a) e
  have gg : Sub G G2 := fun a o e => by
    have m : ¬ In fp a := fun m => by rw [(R.co.here m).2] at e; cases e
    rw [g2 a m]
    exact n.st.ex a o (gs a o e)
  have sub2 : Sub G2 H' := fun a o e => by
    by_cases m : In fp a
    · rw [g1 a m] at e; cases e
    · rw [g2 a m] at e; exact n.rp.co.sub a o e
  have st : Stp (In fp) G H G2 H' := ⟨gg, fun a o _ e => keep a o e, fun a o m e g => by
    rw [g2 a m]
    exact n.st.hid a o (noIn a) e (by rw [s2 a m]; exact g)⟩
  have tt : ∀ a xs, SqT K G' a xs → SqT K G2 a xs := fun a xs h => by
    rcases h with h | h
    · refine .inl ?_
      have ne : ¬ In fp a := fun m => by
        obtain ⟨i, m'⟩ := m
        cases e : ρ[i]? with
        | none => rw [R.co.nil i (fun t q => by rw [e] at q; cases q)] at m'; cases m'
        | some z =>
          cases z with
          | none => rw [R.co.nil i (fun t q => by rw [e] at q; cases q)] at m'; cases m'
          | some u =>
            obtain ⟨w, _, ot0⟩ := R.co.slot i u e
            obtain ⟨o, h1, h3⟩ := ot0.kind a m'
            have g0 : G' a = some o := n.st.ex a o (by rw [s1 a ⟨i, m'⟩]; exact h1)
            rcases h with h | ⟨o2, h⟩ <;> (rw [g0] at h; injection h with h; subst h; cases h3)
      rcases h with h | ⟨o2, h⟩
      · exact .inl (by rw [g2 a ne]; exact h)
      · exact .inr ⟨o2, by rw [g2 a ne]; exact h⟩
    · exact .inr h
  exact k r v G2 H' fr ⟨⟨R.co.grow gg (fun a _ o e => keep a o e) g1 sub2, R.stp.trans st R.own, R.own, R.io, R.lo.trans gg⟩, st, fun _ m => .inl m⟩ keep
    (ot.flat tt fl fun a m => by rw [g2 a (outF a m)]; exact (ot.here a m).2) outF fresh fl q
theorem e_frz {X : Cx} {io : List Nat} {e : Expr} {fe : FE} (h : PDe X io e fe) : PDe X io e (fFrz fe) := by
  obtain ⟨te, h1, h2⟩ := h
  refine ⟨te, h1, fun B G H σ ρ fp Qd Q hB R hf k => ?_⟩
  exact frz_core h2 B G H σ ρ fp (fun r => Qd r ρ) Q hB R hf fun r v G' H' fr n _ ot o1 o2 _ q => k r ρ v G' H' fp fr n ot o1 (fun a m => .inl (o2 a m)) q
@[simp] theorem flat_oI (l : List Int) : flatT (oI l) = true := flatTs_all fun t m => by
  obtain ⟨a, _, rfl⟩ := List.mem_map.mp m
  rfl
end DL

namespace DL
open PySem PySem.Spec PyProof.Rows L2
/-! ### instances of own classes -/
theorem RoomG.one {k : Nat} {A : Around} (r : RoomG (k + 1) A) : RoomG k A.in1 := ⟨r.r.in1, r.g⟩
theorem guards_make {A : Around} {C : Addr} {us : List Value} {kw : List (Str × Value)} (h : A.guards = some []) : (A.under (.builtin "type.__call__" ⟨.ref C :: us, kw⟩)).guards = some [] := by
  first | exact h | (simp [Around.under, Code.weight, Code.isCreation, Code.isGuard, Code.isCaller, Code.frames, Code.isFrame, guardIds, h])
theorem RoomG.make {k : Nat} {A : Around} (r : RoomG (k + 1) A) (C : Addr) (us : List Value) (kw : List (Str × Value)) : RoomG k (A.under (.builtin "type.__call__" ⟨.ref C :: us, kw⟩)) := ⟨r.r.make C us kw, guards_make r.g⟩
section
variable {X : Cx} {CX : CXT} {k : Nat} {C p g a dx f : Addr} {fs : List (Str × V)} {x fld : Str} {fd : FuncData} {ps : List Str} {sp : Sp} {E : XK} {e : Expr} {es : List Expr} {pos pn : Pos} {ta : TE} {t : TA}
theorem getprop_G {pins : List (Addr × Obj)} {σ : L2.St} {H : Hp} {s : Shared} {Q : VK} {b : Bool} {E' : Value → Shared → Prop} (I : Inv X pins σ H s) (ha : H a = some (.ins C dx fs)) (hc : Cls X.K C) (hp : PropOf X.K C fld p g)
    (F : FnG X.prog X.w X.K X.mg X.base CX k g fd ps sp) (hr : RoomG (k + 1) X.A) (hb : Binds X.K fd ps []) (hx : Passes CX X.nox E) (q : sp [.ref a] H Q E) :
    wpAny (model X.prog X.w) X.A (getAttr (.ref a) fld b) (EP X pins σ Q) E' s := by
  obtain ⟨m1, O, _, _, _, _⟩ := ins_get I.hok ha
  obtain ⟨od, J, _⟩ := O.look
  obtain ⟨rest, hrc⟩ := hp.rec_
  have I2 := I.tok (s.toks + 1)
  have ln : ([Value.ref a] ++ []).length = ps.length := by
    have := F.len _ _ _ _ q
    simpa using this
  have cl : (PySem.W.clsIn X.K C).isSome = true := by
    obtain ⟨cd, hcd, _⟩ := PySem.W.any_some hc.hd
    rw [hcd] <;> rfl
  have bd := hb { s with toks := s.toks + 1 } [.ref a] I2.kIn ln
  refine PySem.W.get_bind I.kIn J (PySem.W.plainGet_of (hc.get fld)).1 (PySem.W.findObj_data cl hp.at_ hp.get hp.tak) (PySem.W.plainGet_of (hc.get fld)).2 (wpAny_call (PySem.W.prop_get (s := { s with toks := s.toks + 1 }) I.kIn hrc ?_))
  refine codeAny_mono (F.run X.A.in1 X.stack { s with toks := s.toks + 1 } H ⟨[.ref a], []⟩ [.ref a] [.ref a] Q E hr.one I2.env0.in1 bd (.cons rfl .nil) q) fun r s' hq => ?_
  cases r with
  | error er => exact (hx pins σ H { s with toks := s.toks + 1 } er s' (I2.wish _) hq).elim
  | ok fl =>
    cases fl with
    | next => exact hq.elim
    | brk => exact hq.elim
    | cont => exact hq.elim
    | ret u =>
      obtain ⟨v, H', I3, rv, q3⟩ := I2.after hq
      show wpAny _ _ (handedOut u) _ _ _
      rw [PySem.W.handedOut_of (handed_of rv)] <;> exact wpAny_pure ⟨v, H', I3, rv, q3⟩
theorem pe_propG (he : PE X e ta) (hc : Cls X.K C) (hp : PropOf X.K C fld p g) (F : FnG X.prog X.w X.K X.mg X.base CX k g fd ps sp) (hr : RoomG (k + 1) X.A) (hb : Binds X.K fd ps []) (hx : Passes CX X.nox E)
    (hab : attributeBase e fld X.env (eval e X.env) = eval e X.env) : PE X (.Attribute e fld pos) (tProp C sp [] E ta) := ⟨fun pins s σ H Q I h => by
  refine attr_of hab (thn (he.run pins s σ H _ I h) fun u s1 ⟨y, H1, I1, ry, b, dx, fs, ey, eb, q⟩ => ?_)
  subst ey
  cases ry
  exact getprop_G I1 eb hc hp F hr hb hx q⟩
theorem run_makeG {pins : List (Addr × Obj)} {σ : L2.St} {H : Hp} {s : Shared} {Q : VK} {us : List Value} {vs : List V} (M : Mk X.K C f) (F : FnG X.prog X.w X.K X.mg X.base CX k f fd ps sp) (hr : RoomG (k + 1) X.A) (hb : Binds X.K fd ps [])
    (hx : Passes CX X E) (I : Inv X pins σ H s) (r : Vals vs us) (h : ∀ x dx, H x = none → H dx = none → dx ≠ x → sp (.ref x :: vs) (upd (upd H dx (.own x)) x (.ins C dx [])) (fun v H2 => v = .non ∧ Q (.ref x) H2) E) :
    wpAny (model X.prog X.w) X.A (call (.ref C) us) (EP X pins σ Q) X.xe s := by
  have q := h (s.heap.objs.size + 1) s.heap.objs.size (I.hok.fresh (Nat.le_succ _)) (I.hok.fresh (Nat.le_refl _)) (Nat.ne_of_lt (Nat.lt_succ_self _))
  have J := Inv.made (C := C) I
  have rs : Vals (V.ref (s.heap.objs.size + 1) :: vs) (Value.ref (s.heap.objs.size + 1) :: us) := .cons rfl r
  have ln : (Value.ref (s.heap.objs.size + 1) :: us ++ []).length = ps.length := by
    rw [List.append_nil, ← rs.length]
    exact F.len _ _ _ _ q
  have bd := hb _ (Value.ref (s.heap.objs.size + 1) :: us) J.kIn ln
  rw [List.append_nil] at bd
  refine wpAny_call (make_map (f := f) I.kIn M.makes M.init (beq_iff_eq.mp M.fn) (codeAny_mono (F.run _ X.stack _ _ ⟨Value.ref (s.heap.objs.size + 1) :: us, []⟩ (Value.ref (s.heap.objs.size + 1) :: us) _ _ E (hr.make C us [])
    (J.env0.make C us []) bd rs q) fun r s' hq => ?_))
  cases r with
  | error er => exact hx pins σ _ _ er s' J hq
  | ok fl =>
    cases fl with
    | next => exact hq.elim
    | brk => exact hq.elim
    | cont => exact hq.elim
    | ret u =>
      obtain ⟨v, H', I3, rv, ev, q3⟩ := J.after hq
      subst ev
      exact ⟨rv, ⟨V.ref (s.heap.objs.size + 1), H', I3, rfl, q3⟩⟩
def tMakeG (C : Addr) (sp : Sp) (E : XK) (t : TA) : TE := fun σ H Q => t σ H fun vs H1 => ∀ x dx, H1 x = none → H1 dx = none → dx ≠ x → sp (.ref x :: vs) (upd (upd H1 dx (.own x)) x (.ins C dx [])) (fun v H2 => v = .non ∧ Q (.ref x) H2) E
theorem pe_makeG (M : Mk X.K C f) (F : FnG X.prog X.w X.K X.mg X.base CX k f fd ps sp) (hr : RoomG (k + 1) X.A) (hg : Gl X x) (hm : X.mg x = some (.ref C)) (hb : Binds X.K fd ps []) (hx : Passes CX X E)
    (ha : PA X (e :: es) t) (hdb : (x == ("__debug__" : Str)) = false := by decide) (he : starEach (e :: es) X.env = (false, eval e X.env) :: starEach es X.env := by rfl) (hpl : (backTo pos (starEach es X.env)).any (·.1) = false := by rfl) :
    PE X (.Call (.Name x pn) (e :: es) [] pos) (tMakeG C sp E t) := ⟨fun pins s σ H Q I h => by
  refine wpAny_Call_Name_kw (ld_glob I hg hm ?_ hdb)
  refine PySem.W.callWith_K (h₀ := X.base) I.ok.mod.kin M.kp (thn (ha.run pos pins s σ H _ I h) fun us s1 ⟨vs, H1, I1, r, q⟩ => ⟨I1.kIn, ?_⟩) he hpl
  exact run_makeG M F hr hb hx I1 r q⟩
end
/-! #### a contract at data alone -/
theorem spD_data {K : PySem.W.Frag} {B : Bs} {σ : L2.St} {G H : Hp} {ρ : Rho} {fp : Nat → List Addr} (R : Rp K B G H σ ρ fp) {vs : List V} {ds : List DD} (rq : RqA K G vs ds) {F : Ctr} {Qd : SV → List SV → Prop} {Q : VK} {E : XK} (hF : F (ds.map .dat) Qd)
    (k : ∀ r as' v G' H' fr, Nxt K B σ G H fp G' H' ρ fp → OT K G' H' v r fr → (∀ a ∈ fr, ¬ In fp a) → (∀ a ∈ fr, H a = none) → Qd r as' → Q v H') : spD K F vs H Q E := by
  refine ⟨G, ds.map .dat, fun _ => [], Qd, ⟨by simp [rq.length], R.co.sub, fun i t e => ?_, fun _ _ => rfl, fun _ _ _ m => nomatch m⟩, hF, fun r as' v G' H' fp' fr c st inn ot d1 d2 q => ?_⟩
  · rw [List.getElem?_map, List.getElem?_map] at e
    cases h : ds[i]? with
    | none => rw [h] at e; cases e
    | some d =>
      rw [h] at e
      have : SV.dat d = t := by simpa using e
      subst this
      obtain ⟨u, hu, ru⟩ := rq.get h
      exact ⟨u, by rw [List.getElem?_map, hu]; rfl, .dat ru⟩
  · have noIn : ∀ a, ¬ In (fun _ : Nat => ([] : List Addr)) a := fun a ⟨_, m⟩ => by cases m
    have fresh : ∀ a ∈ fr, H a = none := fun a m => (d2 a m).elim id fun z => absurd z (noIn a)
    have out : ∀ a ∈ fr, ¬ In fp a := fun a m z => by
      obtain ⟨⟨o, e⟩, _⟩ := R.co.here z
      rw [fresh a m] at e; cases e
    have st2 : Stp (In fp) G H G' H' := ⟨st.ex, fun a o _ e => st.keep a o (noIn a) e, fun a o _ e g => st.hid a o (noIn a) e g⟩
    refine k r as' v G' H' fr ⟨⟨R.co.grow st.ex (fun a _ o e => st.keep a o (noIn a) e) (fun a m => ?_) c.sub, R.stp.trans st2 R.own, R.own, R.io, R.lo.trans st.ex⟩, st2, fun _ m => .inl m⟩ ot out fresh q
    obtain ⟨⟨o, e⟩, g⟩ := R.co.here m
    exact st.hid a o (noIn a) e g
/-! #### e.f, a property -/
/-- the class at the address has the property, a getter of such worth -/
def Hp_ (P : Program) (w : World) (K : PySem.W.Frag) (mg : Str → Option Value) (base : Heap) (C : Addr) (x : Str) (k : Nat) (F : Ctr) : Prop :=
  ∃ p g fd, Cls K C ∧ PropOf K C x p g ∧ Binds K fd ["self"] [] ∧ FnG P w K mg base CX0 k g fd ["self"] (spD K F)
@[simp] def fProp (C : Addr) (F : Ctr) (fo : FO) : FE := fun ρ Q => fo ρ fun o ρ1 => ∃ ds, resT ρ1 o = some (.dat (.obj C ds)) ∧ F [.dat (.obj C ds)] fun r as' => Q r ρ1
theorem e_prop {X : Cx} {io : List Nat} {C : Addr} {x : Str} {k : Nat} {F : Ctr} {e : Expr} {fo : FO} {pos : Pos} (h : Hp_ X.prog X.w X.K X.mg X.base C x k F) (hr : RoomG (k + 1) X.A) (ho : PDo X io e fo) (hx : ∀ E, Passes CX0 X.nox E := by exact fun _ => pass0)
    (hab : attributeBase e x X.env (eval e X.env) = eval e X.env := by rfl) : PDe X io (.Attribute e x pos) (fProp C F fo) := by
  obtain ⟨p, g, fd, hc, hp, hb, hF⟩ := h
  obtain ⟨ta, a1, a2⟩ := ho
  refine ⟨_, pe_propG a1 hc hp hF hr hb (hx (fun _ _ _ => False)) hab, fun B G H σ ρ fp Qd Q hB R hf k => ?_⟩
  refine a2 B G H σ ρ fp _ _ hB R hf fun o ρ1 v G1 H1 fp1 n1 o1 ⟨ds, e1, q⟩ => ?_
  obtain ⟨f, ot, _⟩ := o1.tree n1.rp e1
  have rq := ot.dat_inv.1
  obtain ⟨a, dx, fs, ev, ga, _⟩ := rq.obj_inv
  subst ev
  refine ⟨a, dx, fs, rfl, n1.rp.co.sub _ _ ga, spD_data (ds := [.obj C ds]) n1.rp (.cons rq .nil) q fun r as' v G' H' fr n2 ot2 s1 s2 q2 => ?_⟩
  exact k r ρ1 v G' H' fp1 fr (n1.trans n2) ot2 s1 (fun b m => by
    by_cases z : In fp b
    · exact .inr z
    · exact .inl (n1.st.fresh z (s2 b m))) q2
/-! #### e.f, a field -/
theorem RqF.look {K : PySem.W.Frag} {G : Hp} : ∀ {fs : List (Str × V)} {ds : List (Str × DD)} {x : Str} {d : DD}, RqF K G fs ds → ds.lookup x = some d → ∃ v, fs.lookup x = some v ∧ Rq K G v d
  | _, _, x, d, .nil, e => by cases e
  | _, _, x, d, .cons (f := f) a b, e => by
    rw [List.lookup_cons] at e ⊢
    by_cases h : (x == f) = true
    · rw [h] at e ⊢
      exact ⟨_, rfl, by cases e; exact a⟩
    · have h' : (x == f) = false := by simpa using h
      rw [h'] at e ⊢
      exact RqF.look b e
@[simp] def fFld (C : Addr) (x : Str) (fo : FO) : FV := fun ρ Q => fo ρ fun o ρ1 => ∃ ds d, resT ρ1 o = some (.dat (.obj C ds)) ∧ ds.lookup x = some d ∧ Q d ρ1
theorem v_fld {X : Cx} {io : List Nat} {C : Addr} {x : Str} {e : Expr} {fo : FO} {pos : Pos} (hc : Cls X.K C) (hn : NoAttr X.K C x) (ho : PDo X io e fo) (hab : attributeBase e x X.env (eval e X.env) = eval e X.env := by rfl) : PDv X io (.Attribute e x pos) (fFld C x fo) := by
  obtain ⟨ta, a1, a2⟩ := ho
  refine ⟨_, pe_fld a1 hab, fun B G H σ ρ fp Qd Q hB R hf k => ?_⟩
  refine a2 B G H σ ρ fp _ _ hB R hf fun o ρ1 v G1 H1 fp1 n1 o1 ⟨ds, d, e1, e2, q⟩ => ?_
  obtain ⟨f, ot, _⟩ := o1.tree n1.rp e1
  obtain ⟨a, dx, fs, ev, ga, rf⟩ := ot.dat_inv.1.obj_inv
  obtain ⟨u, hu, ru⟩ := rf.look e2
  exact ⟨a, C, dx, fs, u, ev, n1.rp.co.sub _ _ ga, hc, hn, hu, k d ρ1 u G1 H1 fp1 n1 ru q⟩
/-! #### self.f = e -/
def datF (ds : List (Str × DD)) : List (Str × SV) := ds.map fun p => (p.1, .dat p.2)
def putD (x : Str) (d : DD) : List (Str × DD) → List (Str × DD)
  | [] => [(x, d)]
  | (g, y) :: r => if g = x then (g, d) :: r else (g, y) :: putD x d r
theorem RqF.otf {K : PySem.W.Frag} {G H : Hp} : ∀ {fs : List (Str × V)} {ds : List (Str × DD)}, RqF K G fs ds → OTf K G H fs (datF ds) []
  | _, _, .nil => .nil
  | _, _, .cons a b => OTf.cons (f1 := []) (f2 := []) (.dat a) (RqF.otf b) (fun _ z => nomatch z)
theorem OTf.rqF {K : PySem.W.Frag} {G H : Hp} : ∀ {ds : List (Str × DD)} {fs : List (Str × V)} {fp : List Addr}, OTf K G H fs (datF ds) fp → RqF K G fs ds ∧ fp = []
  | [], _, _, h => by cases h; exact ⟨.nil, rfl⟩
  | (x, d) :: ds, _, _, h => by
    cases h with
    | cons a b _ =>
      obtain ⟨r1, rfl⟩ := a.dat_inv
      obtain ⟨r2, rfl⟩ := OTf.rqF b
      exact ⟨.cons r1 r2, rfl⟩
theorem RqF.put {K : PySem.W.Frag} {G : Hp} {x : Str} {v : V} {d : DD} (r : Rq K G v d) : ∀ {fs : List (Str × V)} {ds : List (Str × DD)}, RqF K G fs ds → RqF K G (putF x v fs) (putD x d ds)
  | _, _, .nil => .cons r .nil
  | _, _, .cons (f := f) a b => by
    unfold putF putD
    by_cases h : f = x
    · rw [if_pos h, if_pos h]; exact .cons r b
    · rw [if_neg h, if_neg h]; exact .cons a (RqF.put r b)
theorem Rp.chgAt {K : PySem.W.Frag} {B : Bs} {σ : L2.St} {G H : Hp} {ρ : Rho} {fp : Nat → List Addr} (R : Rp K B G H σ ρ fp) {i : Nat} {t0 t1 : SV} {v : V} {a : Addr} {o : HO} (hi : ρ[i]? = some (some t0)) (hs : σ[i]? = some (some v)) (ha : a ∈ fp i) (ot : OT K G (upd H a o) v t1 (fp i)) :
    Rp K B G (upd H a o) σ (ρ.set i (some t1)) fp := by
  have il : i < ρ.length := (List.getElem?_eq_some_iff.mp hi).1
  have ain : In fp a := ⟨i, ha⟩
  have ga := (R.co.here ain).2
  obtain ⟨o0, h0⟩ := (R.co.here ain).1
  refine ⟨⟨by rw [List.length_set]; exact R.co.len, fun x u e => ?_, fun j t h => ?_, fun j h => ?_, R.co.dis⟩, ⟨R.stp.ex, fun x u h e => ?_, R.stp.hid⟩, R.own, fun j m => ?_, R.lo⟩
  · have : x ≠ a := fun z => by rw [z, ga] at e; cases e
    rw [upd_ne this]; exact R.co.sub x u e
  · by_cases e : j = i
    · subst e
      rw [List.getElem?_set_self il] at h
      injection h with h; injection h with h
      subst h
      exact ⟨_, hs, ot⟩
    · rw [List.getElem?_set_ne (Ne.symm e)] at h
      obtain ⟨u, e1, o1⟩ := R.co.slot j t h
      refine ⟨u, e1, o1.mono (Sub.refl _) (fun x m w e2 => ?_) fun x m => (o1.here x m).2⟩
      have : x ≠ a := fun z => by
        subst z
        exact e (R.co.dis j i x m ha)
      rw [upd_ne this]; exact e2
  · by_cases e : j = i
    · subst e; exact absurd (List.getElem?_set_self il) (h _)
    · exact R.co.nil j fun t q => h t (by rw [List.getElem?_set_ne (Ne.symm e)]; exact q)
  · have : x ≠ a := fun z => by
      subst z
      rcases R.own x ain with y | y
      · exact h y
      · rw [e] at y; cases y
    rw [upd_ne this]; exact R.stp.keep x u h e
  · obtain ⟨w, t, e1, e2, e3⟩ := R.io j m
    by_cases e : j = i
    · subst e; exact ⟨w, _, e1, e2, List.getElem?_set_self il⟩
    · exact ⟨w, t, e1, e2, by rw [List.getElem?_set_ne (Ne.symm e)]; exact e3⟩
@[simp] def fSetFld (C : Addr) (i : Nat) (x : Str) (fv : FV) : FS := fun D ρ => fv ρ fun d ρ1 => ∃ ds, ρ1[i]? = some (some (.ob C (datF ds))) ∧ ds.length < 1000 ∧ D.nx (ρ1.set i (some (.ob C (datF (putD x d ds)))))
theorem RqF.len {K : PySem.W.Frag} {G : Hp} : ∀ {fs : List (Str × V)} {ds : List (Str × DD)}, RqF K G fs ds → fs.length = ds.length
  | _, _, .nil => rfl
  | _, _, .cons _ b => congrArg (· + 1) (RqF.len b)
theorem s_setfld {X : Cx} {io : List Nat} {C : Addr} {x : Str} {e o : Expr} {te : TE} {fv : FV} {pos pos2 : Pos} (i : Nat) (hc : Cls X.K C) (hn : NoAttr X.K C x) (ho : PE X o te) (ht : te = tVar i) (hv : PDv X io e fv)
    (hs : swapsWith e (some (.Attribute o x pos2)) pos.line X.env = pure false := by rfl) : PDs X io (.Assign [.Attribute o x pos2] e pos) (fSetFld C i x fv) := by
  subst ht
  obtain ⟨_, a1, a2⟩ := hv
  refine ⟨_, ps_fld ho a1 hs, fun B G H σ ρ fp Dd Dh hB R hf sm => ?_⟩
  refine a2 B G H σ ρ fp _ _ hB R hf fun d ρ1 v G1 H1 fp1 n1 r ⟨ds, e0, hl, q⟩ => ?_
  obtain ⟨z, ez, ot⟩ := n1.rp.co.slot i _ e0
  obtain ⟨a, dx, fs, f, ev, ef, h1, h2, g1, g2, os, na, naf, ndf⟩ := ot.ob_inv
  subst ev
  obtain ⟨rf, ef0⟩ := OTf.rqF os
  subst ef0
  have ha : a ∈ fp1 i := by rw [ef]; exact List.mem_cons_self
  have hne : dx ≠ a := fun z => na z.symm
  have ot2 : OT X.K G1 (upd H1 a (.ins C dx (putF x v fs))) (.ref a) (.ob C (datF (putD x d ds))) (fp1 i) := by
    rw [ef]
    exact .ob upd_same (by rw [upd_ne hne]; exact h2) g1 g2 (RqF.otf (RqF.put r rf)) na (fun z => nomatch z) (fun z => nomatch z)
  exact ⟨.ref a, ez, a, C, dx, fs, rfl, h1, hc, hn, by rw [rf.len]; exact hl, sm.nx _ _ _ _ _ (n1.rp.chgAt e0 ez ha ot2) q⟩
/-! #### C(e, ..) -/
def Hm_ (P : Program) (w : World) (K : PySem.W.Frag) (mg : Str → Option Value) (base : Heap) (C : Addr) (x : Str) (ps : List Str) (k : Nat) (F : Ctr) : Prop :=
  ∃ f fd, mg x = some (.ref C) ∧ Mk K C f ∧ Binds K fd ps [] ∧ FnG P w K mg base CX0 k f fd ps (spD K F)
@[simp] def fMake (C : Addr) (F : Ctr) (fa : FAs) : FE := fun ρ Q => fa ρ fun avs ρ1 => ∃ ds : List DD, avs = ds.map (fun d => AV.val (.dat d)) ∧ F (.ob C [] :: ds.map .dat) fun r as' => r = .dat .non ∧ ∃ t rest, as' = t :: rest ∧ Q t ρ1
theorem AVR.dats {K : PySem.W.Frag} {G H : Hp} {σ : L2.St} : ∀ {ds : List DD} {vs : List V} {fr : List Addr}, AVR K G H σ vs (ds.map fun d => AV.val (.dat d)) fr → RqA K G vs ds
  | [], _, _, h => by cases h; exact .nil
  | d :: ds, _, _, h => by
    cases h with
    | val a b _ => exact .cons a.dat_inv.1 (AVR.dats b)
theorem e_make {X : Cx} {io : List Nat} {C : Addr} {x : Str} {ps : List Str} {k : Nat} {F : Ctr} {e : Expr} {es : List Expr} {fa : FAs} {pn pos : Pos} (h : Hm_ X.prog X.w X.K X.mg X.base C x ps k F) (hr : RoomG (k + 1) X.A) (ha : PDas X io (e :: es) fa) (hg : Gl X x := by rfl) (hdb : (x == ("__debug__" : Str)) = false := by decide)
    (he : starEach (e :: es) X.env = (false, eval e X.env) :: starEach es X.env := by rfl) (hpl : (backTo pos (starEach es X.env)).any (·.1) = false := by rfl) : PDe X io (.Call (.Name x pn) (e :: es) [] pos) (fMake C F fa) := by
  obtain ⟨f, fd, hm, M, hb, hF⟩ := h
  obtain ⟨t, a1, a2⟩ := ha
  refine ⟨_, pe_makeG M hF hr hg hm hb pass0 a1 hdb he hpl, fun B G H σ ρ fp Qd Q hB R hf k => ?_⟩
  refine a2 B G H σ ρ fp _ _ hB R hf fun avs ρ1 vs G1 H1 fp1 fr n1 ar t1 t2 ⟨ds, ea, q⟩ => ?_
  subst ea
  have rq := AVR.dats ar
  intro p dx hp hd hne
  have gp : G1 p = none := by
    cases e : G1 p with
    | none => rfl
    | some u => have := n1.rp.co.sub _ _ e; rw [hp] at this; cases this
  have gd : G1 dx = none := by
    cases e : G1 dx with
    | none => rfl
    | some u => have := n1.rp.co.sub _ _ e; rw [hd] at this; cases this
  generalize hH : upd (upd H1 dx (.own p)) p (.ins C dx []) = H2
  have h2p : H2 p = some (.ins C dx []) := by rw [← hH]; exact upd_same
  have h2d : H2 dx = some (.own p) := by rw [← hH, upd_ne hne]; exact upd_same
  have h2o : ∀ a o, H1 a = some o → H2 a = some o := fun a o e => by
    rw [← hH, upd_ne (ne_of_none e hp), upd_ne (ne_of_none e hd)]; exact e
  have h2n : ∀ a, H2 a = none → H1 a = none := fun a e => by
    cases z : H1 a with
    | none => rfl
    | some o => rw [h2o a o z] at e; cases e
  let g : Nat → List Addr := fun i => if i = 0 then [p, dx] else []
  have gin : ∀ a, In g a → a = p ∨ a = dx := fun a ⟨i, m⟩ => by
    by_cases e : i = 0
    · simp [g, e] at m; exact m
    · simp [g, e] at m
  have gn1 : ∀ a, In g a → H1 a = none := fun a m => by
    rcases gin a m with e | e
    · rw [e]; exact hp
    · rw [e]; exact hd
  refine ⟨G1, .ob C [] :: ds.map .dat, g, _, ⟨by simp [rq.length], fun a o e => h2o a o (n1.rp.co.sub a o e), fun i t e => ?_, fun i e => ?_, fun i j a m1 m2 => ?_⟩, q, fun r as' v G' H' fp' fr' c st inn ot d1 d2 ⟨er, t', rest, ea, q2⟩ => ?_⟩
  · cases i with
    | zero =>
      have : SV.ob C [] = t := by simpa using e
      subst this
      exact ⟨.ref p, rfl, .ob h2p h2d gp gd .nil (fun z => hne z.symm) (fun z => nomatch z) (fun z => nomatch z)⟩
    | succ i =>
      have e' : (ds.map SV.dat)[i]? = some t := by simpa using e
      rw [List.getElem?_map] at e'
      cases h : ds[i]? with
      | none => rw [h] at e'; cases e'
      | some d =>
        rw [h] at e'
        have : SV.dat d = t := by simpa using e'
        subst this
        obtain ⟨u, hu, ru⟩ := rq.get h
        exact ⟨u, by simp [hu], .dat ru⟩
  · cases i with
    | zero => exact absurd rfl (e (.ob C []))
    | succ i => rfl
  · cases i with
    | zero =>
      cases j with
      | zero => rfl
      | succ j => cases m2
    | succ i => cases m1
  · subst er ea
    refine ⟨ot.dat_inv.1.non_inv, ?_⟩
    obtain ⟨z, ez, o0⟩ := c.slot 0 t' rfl
    have : z = .ref p := by simpa using ez.symm
    subst this
    have keep : ∀ a o, H1 a = some o → H' a = some o := fun a o e => st.keep a o (fun m => by rw [gn1 a m] at e; cases e) (h2o a o e)
    have hid : ∀ a o, H1 a = some o → G1 a = none → G' a = none := fun a o e g0 => st.hid a o (fun m => by rw [gn1 a m] at e; cases e) (h2o a o e) g0
    have fresh : ∀ a ∈ fp' 0, H1 a = none := fun a m => (inn a ⟨0, m⟩).elim (gn1 a) (h2n a)
    have st2 : Stp (In fp1) G1 H1 G' H' := ⟨st.ex, fun a o _ e => keep a o e, fun a o _ e g0 => hid a o e g0⟩
    have n2 : Nxt X.K B σ G1 H1 fp1 G' H' ρ1 fp1 := ⟨⟨n1.rp.co.grow st.ex (fun a _ o e => keep a o e) (fun a m => by
      obtain ⟨⟨o, e⟩, g0⟩ := n1.rp.co.here m
      exact hid a o e g0) c.sub, n1.rp.stp.trans st2 n1.rp.own, n1.rp.own, n1.rp.io, n1.rp.lo.trans st.ex⟩, st2, fun _ m => .inl m⟩
    refine k t' ρ1 (.ref p) G' H' fp1 (fp' 0) (n1.trans n2) o0 (fun a m z => ?_) (fun a m => ?_) q2
    · obtain ⟨⟨o, e⟩, _⟩ := n1.rp.co.here z
      rw [fresh a m] at e; cases e
    · by_cases z : In fp a
      · exact .inr z
      · exact .inl (n1.st.fresh z (fresh a m))
end DL

namespace DL
open PySem PySem.Spec PyProof.Rows L2
/-! ### in, not in -/
theorem RqA.strs_inv {K : PySem.W.Frag} {G : Hp} : ∀ {ns : List Str} {vs : List V}, RqA K G vs (ns.map DD.str) → vs = ns.map V.str
  | [], _, h => by cases h; rfl
  | n :: ns, _, h => by
    cases h with
    | cons a b => rw [a.str_inv, RqA.strs_inv b]; rfl
theorem inV_int (a : Int) : ∀ ns : List Int, inV (.int a) (ns.map V.int) = decide (a ∈ ns)
  | [] => rfl
  | n :: ns => by
    have ih := inV_int a ns
    unfold inV at ih ⊢
    rw [List.map_cons, List.any_cons, ih]
    show (n == a || decide (a ∈ ns)) = _
    by_cases h : n = a
    · subst h; simp
    · have : a ≠ n := fun e => h e.symm
      simp [h, this]
theorem inV_str (a : Str) : ∀ ns : List Str, inV (.str a) (ns.map V.str) = decide (a ∈ ns)
  | [] => rfl
  | n :: ns => by
    have ih := inV_str a ns
    unfold inV at ih ⊢
    rw [List.map_cons, List.any_cons, ih]
    show (n == a || decide (a ∈ ns)) = _
    by_cases h : n = a
    · subst h; simp
    · have : a ≠ n := fun e => h e.symm
      simp [h, this]
theorem flat_ints (ns : List Int) : (ns.map V.int).all flatV = true := by simp [flatV]
theorem flat_strs (ns : List Str) : (ns.map V.str).all flatV = true := by simp [flatV]
@[simp] def oInQ (neg : Bool) : Op2 := fun d e P => (∃ (a : Int) (ns : List Int), d = .int a ∧ (e = .lst (ns.map .int) ∨ e = .tup (ns.map .int)) ∧ P (.bl (if neg then !decide (a ∈ ns) else decide (a ∈ ns)))) ∨
  ∃ (a : Str) (ns : List Str), d = .str a ∧ (e = .lst (ns.map .str) ∨ e = .tup (ns.map .str)) ∧ P (.bl (if neg then !decide (a ∈ ns) else decide (a ∈ ns)))
theorem sc_in {K : PySem.W.Frag} (neg : Bool) : ScR K (rIn K neg) (oInQ neg) := fun H x y d e P Q hx hy h k => by
  have seq : ∀ {ds : List DD}, (e = .lst ds ∨ e = .tup ds) → ∃ p xs, y = .ref p ∧ (SqL K H p xs ∨ SqT K H p xs) ∧ RqA K H xs ds := fun {ds} q => by
    rcases q with rfl | rfl
    · obtain ⟨a, xs, ev, h, r⟩ := hy.lst_inv
      exact ⟨a, xs, ev, .inl (.inl h), r⟩
    · obtain ⟨a, xs, ev, h, r⟩ := hy.tup_inv
      exact ⟨a, xs, ev, .inr h, r⟩
  rcases h with ⟨a, ns, rfl, q, p⟩ | ⟨a, ns, rfl, q, p⟩
  · obtain ⟨b, xs, ey, hs, r⟩ := seq q
    have := r.ints_inv
    subst this
    rw [hx.int_inv]
    exact ⟨b, _, ey, hs, rfl, flat_ints ns, by rw [inV_int]; exact k _ _ p (.bl _)⟩
  · obtain ⟨b, xs, ey, hs, r⟩ := seq q
    have := r.strs_inv
    subst this
    rw [hx.str_inv]
    exact ⟨b, _, ey, hs, rfl, flat_strs ns, by rw [inV_str]; exact k _ _ p (.bl _)⟩
section
variable {X : Cx} {io : List Nat} {a b c : Expr} {pos : Pos} {fa fb fc : FO}
theorem p_in (ha : PDo X io a fa) (hb : PDo X io b fb) (hm : behindInMarks .In b = false := by rfl) : PDv X io (.Compare a [.In] [b] pos) (fBin (oInQ false) fa fb) := p_cmp op_in_seq (sc_in false) hm ha hb
theorem p_nin (ha : PDo X io a fa) (hb : PDo X io b fb) (hm : behindInMarks .NotIn b = false := by rfl) : PDv X io (.Compare a [.NotIn] [b] pos) (fBin (oInQ true) fa fb) := p_cmp op_notIn_seq (sc_in true) hm ha hb
theorem q_in (ha : PDo X io a fa) (hb : PDo X io b fb) (hm : behindInMarks .In b = false := by rfl) : PDt X io (.Compare a [.In] [b] pos) (fTst (fBin (oInQ false) fa fb)) := t_cmp op_in_seq (sc_in false) hm ha hb
theorem q_nin (ha : PDo X io a fa) (hb : PDo X io b fb) (hm : behindInMarks .NotIn b = false := by rfl) : PDt X io (.Compare a [.NotIn] [b] pos) (fTst (fBin (oInQ true) fa fb)) := t_cmp op_notIn_seq (sc_in true) hm ha hb
/-! ### a op b op c -/
@[simp] def fChn (f g : Op2) (fa fb fc : FO) : FV := fun ρ Q => fa ρ fun x ρ1 => fb ρ1 fun y ρ2 => ∃ d e, resD ρ2 x = some d ∧ resD ρ2 y = some e ∧ f d e fun z => ∃ k, z = .bl k ∧
  if k = true then fc ρ2 fun u ρ3 => ∃ e' w, resD ρ3 y = some e' ∧ resD ρ3 u = some w ∧ g e' w fun z => Q z ρ3 else Q (.bl false) ρ2
theorem Lit.bl_inv {w : V} {k : Bool} (h : Lit w (.bl k)) : w = .bl k := by cases h; rfl
theorem dv_chain {r r' : R2} {f g : Op2} {ta tb tc : TE} (hr : ScR X.K r f) (hr' : ScR X.K r' g) (ha : DO X.K io ta fa) (hb : DO X.K io tb fb) (hc : DO X.K io tc fc) : DV X.K io (tChain r r' ta tb tc) (fChn f g fa fb fc) := by
  intro B G H σ ρ fp Qd Q hB R hf k
  refine ha B G H σ ρ fp _ _ hB R hf fun x ρ1 v1 G1 H1 fp1 n1 o1 hf => ?_
  refine hb B G1 H1 σ ρ1 fp1 _ _ hB n1.rp hf fun y ρ2 v2 G2 H2 fp2 n2 o2 ⟨d, e, e1, e2, q⟩ => ?_
  refine hr H2 v1 v2 d e _ _ ((o1.next n2).rqH n2.rp e1) (o2.rqH n2.rp e2) q fun z w ⟨b, ez, q⟩ l => ?_
  subst ez
  refine ⟨b, l.bl_inv, ?_⟩
  cases b with
  | false => exact k (.bl false) ρ2 (.bl false) G2 H2 fp2 (n1.trans n2) (.bl false) q
  | true =>
    refine hc B G2 H2 σ ρ2 fp2 _ _ hB n2.rp q fun u ρ3 v3 G3 H3 fp3 n3 o3 ⟨e', w', e3, e4, q⟩ => ?_
    exact hr' H3 v2 v3 e' w' _ Q ((o2.next n3).rqH n3.rp e3) (o3.rqH n3.rp e4) q fun z w q l => k z ρ3 w G3 H3 fp3 (n1.trans (n2.trans n3)) l.rq q
theorem p_chn {op op' : CmpOp} {r r' : R2} {f g : Op2} (ho : OpR X (compareOp op) r) (ho' : OpR X (compareOp op') r') (hr : ScR X.K r f) (hr' : ScR X.K r' g) (ha : PDo X io a fa) (hb : PDo X io b fb) (hc : PDo X io c fc) (hm : lastMarks [op, op'] [b, c] = false := by with_unfolding_all rfl) :
    PDv X io (.Compare a [op, op'] [b, c] pos) (fChn f g fa fb fc) := by
  obtain ⟨ta, a1, a2⟩ := ha
  obtain ⟨tb, b1, b2⟩ := hb
  obtain ⟨tc, c1, c2⟩ := hc
  exact ⟨_, pe_chain ho ho' a1 b1 c1 hm, dv_chain hr hr' a2 b2 c2⟩
/-! ### all -/
@[simp] def oAll : OpN := fun ds P => ∃ bs : List Bool, ds = [.lst (bs.map .bl)] ∧ P (.bl (bs.all id))
theorem RqA.bls_inv {K : PySem.W.Frag} {G : Hp} : ∀ {ns : List Bool} {vs : List V}, RqA K G vs (ns.map DD.bl) → vs = ns.map V.bl
  | [], _, h => by cases h; rfl
  | n :: ns, _, h => by
    cases h with
    | cons a b => rw [a.bl_inv, RqA.bls_inv b]; rfl
theorem p_all {p : Pos} {e : Expr} {fos : FOs} (hc : X.calm = true) (hm : X.mg "all" = none) (ha : PDos X io [e] fos) (hg : Gl X "all" := by rfl) (he : starEach [e] X.env = (false, eval e X.env) :: starEach [] X.env := by rfl) : PDv X io (.Call (.Name "all" p) [e] [] pos) (fCB oAll fos) :=
  p_cb (cr_all hc) (fun H xs ds P Q hx h k => by
    obtain ⟨ns, rfl, q⟩ := h
    obtain ⟨x, rfl, r⟩ := hx.one
    obtain ⟨a, ys, rfl, h, r⟩ := r.lst_inv
    have := r.bls_inv
    subst this
    exact ⟨a, ns, rfl, .inl h, k _ _ q (.bl _)⟩) hm (by decide +kernel) ha hg (by decide) (by decide) he
end
end DL

namespace DL
open PySem PySem.Spec PyProof.Rows L2
/-! ### a written dict of ints -/
structure KTab (K : PySem.W.Frag) (w : World) (d : Addr) (T : List (Str × Int)) : Prop where
  ex : ∃ es n, KDict K w d es n
  at_ : ∀ z i, (z, i) ∈ T → ∃ t, PySem.W.nsIn K d z = some (some (.int i t))
section
variable {X : Cx} {io : List Nat} {a b : Expr} {pos : Pos} {fa fb : FO} {d : Addr} {T : List (Str × Int)}
theorem c_gref {x : Str} (hm : X.mg x = some (.ref d)) (hg : Gl X x := by rfl) (hd : (x == ("__debug__" : Str)) = false := by decide) : PDv X io (.Name x pos) (fC (.opq (.ref d))) :=
  ⟨_, pe_glob hg hm (v := .ref d) rfl hd, fun B G H σ ρ fp Qd Q hB R hf k => k _ ρ (.ref d) G H fp (Nxt.refl R) (.opq _) hf⟩
@[simp] def oNinK (d : Addr) (T : List (Str × Int)) : Op2 := fun x y P => ∃ z i, x = .str z ∧ y = .opq (.ref d) ∧ (z, i) ∈ T ∧ P (.bl false)
theorem p_ninK (D : KTab X.K X.w d T) (ha : PDo X io a fa) (hb : PDo X io b fb) (hm : behindInMarks .NotIn b = false := by rfl) : PDv X io (.Compare a [.NotIn] [b] pos) (fBin (oNinK d T) fa fb) := by
  obtain ⟨es, n, D1⟩ := D.ex
  refine p_cmp (op_notIn_kd D1) (fun H x y u v P Q hx hy h k => ?_) hm ha hb
  obtain ⟨z, i, rfl, rfl, m, q⟩ := h
  obtain ⟨t, e⟩ := D.at_ z i m
  exact ⟨z, _, hx.str_inv, hy.opq_inv, e, k _ _ q (.bl _)⟩
theorem q_ninK (D : KTab X.K X.w d T) (ha : PDo X io a fa) (hb : PDo X io b fb) (hm : behindInMarks .NotIn b = false := by rfl) : PDt X io (.Compare a [.NotIn] [b] pos) (fTst (fBin (oNinK d T) fa fb)) := by
  obtain ⟨es, n, D1⟩ := D.ex
  refine t_cmp (op_notIn_kd D1) (fun H x y u v P Q hx hy h k => ?_) hm ha hb
  obtain ⟨z, i, rfl, rfl, m, q⟩ := h
  obtain ⟨t, e⟩ := D.at_ z i m
  exact ⟨z, _, hx.str_inv, hy.opq_inv, e, k _ _ q (.bl _)⟩
@[simp] def fIxK (d : Addr) (T : List (Str × Int)) (fa fb : FO) : FV := fun ρ Q => fa ρ fun x ρ1 => fb ρ1 fun y ρ2 => ∃ z i, resD ρ2 x = some (.opq (.ref d)) ∧ resD ρ2 y = some (.str z) ∧ (z, i) ∈ T ∧ Q (.int i) ρ2
theorem v_ixK (D : KTab X.K X.w d T) (ha : PDo X io a fa) (hb : PDo X io b fb) (hs : PlainIx b := by exact fun _ _ => rfl) : PDv X io (.Subscript a b pos) (fIxK d T fa fb) := by
  obtain ⟨ta, a1, a2⟩ := ha
  obtain ⟨tb, b1, b2⟩ := hb
  obtain ⟨es, n, D1⟩ := D.ex
  refine ⟨_, pe_ix ix_kdict a1 b1 hs, fun B G H σ ρ fp Qd Q hB R hf k => ?_⟩
  refine a2 B G H σ ρ fp _ _ hB R hf fun x ρ1 v1 G1 H1 fp1 n1 o1 hf => ?_
  refine b2 B G1 H1 σ ρ1 fp1 _ _ hB n1.rp hf fun y ρ2 v2 G2 H2 fp2 n2 o2 ⟨z, i, e1, e2, m, q⟩ => ?_
  have h1 := ((o1.next n2).rqH n2.rp e1).opq_inv
  have h2 := (o2.rqH n2.rp e2).str_inv
  obtain ⟨t, e⟩ := D.at_ z i m
  exact ⟨d, z, .int i, h1, h2, ⟨es, n, _, D1.at_, D1.lit, e, ⟨t, rfl⟩⟩, k (.int i) ρ2 (.int i) G2 H2 fp2 (n1.trans n2) (.int i) q⟩
/-! ### isinstance of an int -/
theorem kit_int : ∀ c ∈ ["int", "bool"], kitB "int" c = some (c == "int") := by decide +kernel
@[simp] def oIsiI : OpN := fun ds P => ∃ (i : Int) (c : String), ds = [.int i, .opq (.ty c)] ∧ c ∈ ["int", "bool"] ∧ P (.bl (c == "int"))
theorem p_isiI {p : Pos} {fos : FOs} (hm : X.mg "isinstance" = none) (ha : PDos X io [a, b] fos) (hg : Gl X "isinstance" := by rfl) (he : starEach [a, b] X.env = (false, eval a X.env) :: starEach [b] X.env := by rfl) (hpl : (backTo pos (starEach [b] X.env)).any (·.1) = false := by rfl) : PDv X io (.Call (.Name "isinstance" p) [a, b] [] pos) (fCB oIsiI fos) :=
  p_cb call_isi (fun H xs ds P Q hx h k => by
    obtain ⟨i, c, rfl, hc, q⟩ := h
    obtain ⟨x, y, rfl, r, s⟩ := hx.two
    have := s.opq_inv
    subst this
    exact ⟨x, .ty c, _, _, _, rfl, .ty c, r.tyX rfl, kit_ty (kit_int c hc), k _ _ q (.bl _)⟩) hm PyProof.Rows.boot_isinstance ha hg (by decide) (by decide) he hpl
theorem c_intT (hm : X.mg "int" = none) (hg : Gl X "int" := by rfl) : PDv X io (.Name "int" pos) (fC (.opq (.ty "int"))) := c_blt (v := .ty "int") (u := .type "int") hm (by decide +kernel) rfl hg
theorem c_boolT (hm : X.mg "bool" = none) (hg : Gl X "bool" := by rfl) : PDv X io (.Name "bool" pos) (fC (.opq (.ty "bool"))) := c_blt (v := .ty "bool") (u := .type "bool") hm (by decide +kernel) rfl hg
end
end DL

namespace DL
open PySem PySem.Spec PyProof.Rows L2
/-! ### sorted(set(a list of ints)) -/
section
variable {P : Program} {w : World} {A : Around} {E : Value → Shared → Prop} {s : Shared}
/-- a set that was just made -/
abbrev nso (w : World) : Obj := { cls := .type "set", dict := none, data := .set #[] 0 (.fresh 0 0 (!w.params.followText "set-order")) }
abbrev nsh (w : World) (h : Heap) : Heap := h.push (nso w)
theorem set_of_list {l : Addr} {its : Array Value} (ns : List Int) {Q : Value → Shared → Prop} (h0 : A.handled = none) (hl : s.heap.IsList l its) (hit : IntsAre its.toList ns) (hb : ns.length + 1 < scanBound)
    (h : ∀ (h' : Heap) (tk c : Nat), SetR w h' s.heap.objs.size (fun j => decide (j ∈ ns)) c → c ≤ ns.length → (∀ b o, s.heap.get? b = some o → h'.get? b = some o) → Q (.ref s.heap.objs.size) { s with heap := h', toks := tk }) :
    wpAny (model P w) A (call (.type "set") [.ref l]) Q E s := by
  have sz : its.size = ns.length := by have := IntsAre.length hit; rwa [Array.length_toList] at this
  obtain ⟨_, _, m0⟩ := F.called_set.mro
  have m1 := F.called_set.made; have m2 := F.called_set.sub
  apply wpAny_call; apply codeAny_of_tree
  show wpAny _ _ (callAny (.type "set") _) _ _ _
  apply wpAny_pure; refine ⟨Code.quiet_builtin _ (by decide +kernel), ?_⟩; apply codeAny_builtin F.entry_type_call
  rw [Around.under_plain (weight_type_call_type "set" [.ref l] []) rfl]
  have m3 := F.called_set.notType; have m4 := F.called_set.canCreate; have m5 := F.typeCall_set_1 (.ref l)
  repeat (any_goals (first | assumption | wp_step))
  refine codeAny_mono (code_set_led1 (.ref l) (E := E) (Q₁ := fun y z => y = .ref s.heap.objs.size ∧ z = { s with heap := nsh w s.heap }) ⟨rfl, rfl⟩) fun r z hr => ?_
  rcases r with e | f
  · exact hr
  cases f with
  | next => exact hr.elim
  | brk => exact hr.elim
  | cont => exact hr.elim
  | ret y =>
    obtain ⟨rfl, rfl⟩ := hr
    have at0 : (nsh w s.heap).get? s.heap.objs.size = some (nso w) := Heap.get?_push_size _ rfl
    have ty0 : Shared.TypeIs { s with heap := nsh w s.heap } (.ref s.heap.objs.size) "set" := ⟨_, at0, rfl⟩
    have i1 := F.called_set.init.lookup; have i2 := F.called_set.init.bind (.ref s.heap.objs.size)
    repeat (any_goals (first | assumption | wp_step))
    refine codeAny_mono (codeAny_call_builtin (R := wants (fun r z => r = .none ∧ ∃ h' tk c, z = { s with heap := h', toks := tk } ∧ SetR w h' s.heap.objs.size (fun j => decide (j ∈ ns)) c ∧ c ≤ ns.length ∧ ∀ b o, s.heap.get? b = some o → h'.get? b = some o) E)
      F.called_set.init.plain F.entry_set_init (check_set_init_1 ty0 ?_)) fun r z hr => ?_
    · obtain ⟨⟨oc, od, dt, osl⟩, hol, e1, nl, e2⟩ := hl
      simp only at e1 e2
      subst e1 e2
      have at1 : (nsh w s.heap).get? l = some { cls := .type "list", dict := od, data := .seq its nl, slots := osl } := Heap.get?_push_of_some _ hol
      have s1 := F.sub_list_set; have s2 := F.sub_list_frozenset
      have nd : (Value.type "list" == Value.type "dict") = false := by decide
      have isl : (nsh w s.heap).IsList l its := ⟨_, at1, rfl, nl, rfl⟩
      unfold Builtin.«set.__init__» noKeywords Builtin.Frozenset.updateFrom
      generalize hPI : pyIter = PI
      wp_walk
      subst hPI
      apply wpAny_pyIter_list isl
      apply wpAny_bind; apply wpAny_runValue
      have lS : l < s.heap.objs.size := Heap.lt_size hol
      have h3 : A.in1.in1.in1.handled = none := by simp [h0]
      have pz : (nsh w s.heap).objs.size = s.heap.objs.size + 1 := Heap.size_push ..
      have nI : l ≠ (nsh w s.heap).objs.size := by rw [pz]; exact Nat.ne_of_lt (Nat.lt_succ_of_lt lS)
      have nS : s.heap.objs.size ∉ [(nsh w s.heap).objs.size, l] := by
        rw [pz]; simp only [List.mem_cons, List.not_mem_nil, or_false]
        rintro (z | z)
        · exact Nat.ne_of_lt (Nat.lt_succ_self _) z
        · exact Nat.ne_of_gt lS z
      have vals : ∀ (i : Nat) (v : Value), its[i]? = some v → ∃ k t, ns[i]? = some k ∧ v = .int k t := fun i v hv => by
        have hi : i < ns.length := by rw [← sz]; exact (Array.getElem?_eq_some_iff.mp hv).1
        obtain ⟨t, e⟩ := PyProof.Rows.IntsAre.int_at hit i v (by rw [Array.getElem?_toList]; exact hv)
        refine ⟨ns[i], t, List.getElem?_eq_getElem hi, ?_⟩
        rw [e, List.getD_eq_getElem?_getD, List.getElem?_eq_getElem hi] <;> rfl
      refine set_update_ints ((Walks.list h3 _ l nI its).toS) s.heap.objs.size nS ns sz hb vals (its.size - 0) 0 _ (by omega) (Nat.zero_le _) ⟨⟨_, Heap.get?_push_size _ rfl, rfl, rfl⟩, (isl.push _)⟩ ⟨0, Nat.le_refl 0, setR_new_at (Heap.get?_push_of_some _ at0)⟩ fun z c mv hc hS => ?_
      obtain ⟨h', g2, d2, tk2, os2⟩ := z
      have eg : g2 = s.gens := mv.gens
      have ed : d2 = s.drawn := mv.drawn
      have eo : os2 = s.os := mv.os
      subst eg ed eo
      show wpAny _ _ _ _ _ _
      apply wpAny_pure
      show wpAny _ _ (ret Value.none) _ _ _
      rw [sz] at hc
      refine wpAny_pure ⟨rfl, h', tk2, c, rfl, hS, hc, fun b o e => ?_⟩
      have b0 : b < s.heap.objs.size := Heap.lt_size e
      refine mv.heap b o ?_ (Heap.get?_push_of_some _ (Heap.get?_push_of_some _ e))
      simp only [List.mem_cons, List.not_mem_nil, or_false]
      rintro (z | z)
      · exact Nat.ne_of_lt b0 z
      · exact Nat.ne_of_lt (show b < (nsh w s.heap).objs.size by rw [pz]; exact Nat.lt_succ_of_lt b0) z
    · rcases r with e | f
      · exact hr
      cases f with
      | next => exact hr.elim
      | brk => exact hr.elim
      | cont => exact hr.elim
      | ret r =>
        obtain ⟨rfl, h', tk2, c, rfl, hS, hc, hk⟩ := hr
        repeat (any_goals (first | assumption | wp_step))
        exact h _ _ _ hS hc hk
end
def tSortSet (K : PySem.W.Frag) (ta : TE) : TE := fun σ H Q => ta σ H fun x H1 => ∃ (l : Addr) (ns : List Int), x = .ref l ∧ SqL K H1 l (ns.map V.int) ∧ ns.length < 60 ∧ ∀ (out : List Int) (p : Addr), out.Pairwise (· < ·) → (∀ k, k ∈ out ↔ k ∈ ns) → H1 p = none → Q (.ref p) (upd H1 p (.lst (out.map V.int)))
theorem ints_vals : ∀ {ns : List Int} {us : List Value}, Vals (ns.map V.int) us → IntsAre us ns
  | [], _, .nil => .nil
  | n :: _, _, .cons r t => by
    obtain ⟨k, rfl⟩ := r
    exact .cons n k (ints_vals t)
theorem pe_sortset {X : Cx} {a : Expr} {ta : TE} {p p2 q pos : Pos} (hc : X.calm = true) (hm : X.mg "sorted" = none) (hm2 : X.mg "set" = none) (ha : PE X a ta) (hg : Gl X "sorted" := by rfl) (hg2 : Gl X "set" := by rfl)
    (na : starEach [a] X.env = (false, eval a X.env) :: starEach [] X.env := by rfl) : PE X (.Call (.Name "sorted" p) [.Call (.Name "set" p2) [a] [] q] [] pos) (tSortSet X.K ta) := ⟨fun pins s σ H Q I h => by
  refine Call_ (ld_blt I hg hm (show bootBuiltins "sorted" = some (.builtin "sorted") by decide +kernel) ?_)
  refine PyProof.Rows.callWith_builtin1 (PyProof.Rows.args_cons ?_ rfl) rfl rfl
  refine Call_ (ld_blt I hg2 hm2 boot_set ?_)
  refine PyProof.Rows.callWith_type1 (PyProof.Rows.args_cons (thn (ha.run pins s σ H _ I h) fun v s1 ⟨x, H1, I1, r1, q1⟩ => PyProof.Rows.args_nil ?_) na) na rfl
  obtain ⟨l, ns, rfl, hq, hl, q1⟩ := q1
  cases r1
  obtain ⟨its, r, pl, hz⟩ := I1.list hq
  refine set_of_list ns (I1.ok.hd hc) pl.isList (by simpa using ints_vals r) (by unfold scanBound; omega) fun h' tk c hS hcn hk => ?_
  refine PyProof.Rows.args_nil ?_
  have I2 : Inv X pins σ H1 { s1 with heap := h', toks := tk } := I1.kept fun b o e => hk b o e
  refine sorted_set hS (I2.ok.hd hc) (by omega) fun s' p out c ns2 k g o hp hg hi hs hm hl2 => ?_
  have hlen : (ns2.map V.int).length ≤ sizeLine := by rw [List.length_map, hl2, sizeLine_eq]; omega
  have hn : H1 p = none := I2.hok.fresh hp
  have J : Inv X pins σ (upd H1 p (.lst (ns2.map V.int))) { ({ s1 with heap := h', toks := tk } : Shared) with heap := s'.heap, gens := s'.gens, drawn := s'.drawn, toks := s'.toks } :=
    I2.call (ch := []) (Un.laid k hp hn) (I2.hok.laid k hp ⟨hlen, out.toList, c, vals_of_ints hi, hg⟩) (by rw [g]; exact I2.bare) (fun _ z => nomatch z)
  have e : s' = { s1 with heap := s'.heap, gens := s'.gens, drawn := s'.drawn, toks := s'.toks } := by
    cases s'; cases s1; cases o; rfl
  rw [e]
  exact ⟨.ref p, _, J, rfl, q1 ns2 p hs (fun k => by simpa using hm k) hn⟩⟩
end DL

namespace DL
open PySem PySem.Spec PyProof.Rows L2
theorem OTs.ints {K : PySem.W.Frag} {G H : Hp} : ∀ ns : List Int, OTs K G H (ns.map V.int) (tI ns) []
  | [] => .nil
  | n :: ns => OTs.cons (f1 := []) (f2 := []) (.dat (.int n)) (OTs.ints ns) (fun _ z => nomatch z)
@[simp] def fSortSet (fo : FO) : FE := fun ρ Q => fo ρ fun o ρ1 => ∃ ns : List Int, resD ρ1 o = some (.lst (ns.map .int)) ∧ ns.length < 60 ∧ ∀ out : List Int, out.Pairwise (· < ·) → (∀ k, k ∈ out ↔ k ∈ ns) → Q (oI out) ρ1
theorem e_sortset {X : Cx} {io : List Nat} {a : Expr} {fo : FO} {p p2 q pos : Pos} (hc : X.calm = true) (hm : X.mg "sorted" = none) (hm2 : X.mg "set" = none) (ha : PDo X io a fo) (hg : Gl X "sorted" := by rfl) (hg2 : Gl X "set" := by rfl)
    (na : starEach [a] X.env = (false, eval a X.env) :: starEach [] X.env := by rfl) : PDe X io (.Call (.Name "sorted" p) [.Call (.Name "set" p2) [a] [] q] [] pos) (fSortSet fo) := by
  obtain ⟨ta, a1, a2⟩ := ha
  refine ⟨_, pe_sortset hc hm hm2 a1 hg hg2 na, fun B G H σ ρ fp Qd Q hB R hf k => ?_⟩
  refine a2 B G H σ ρ fp _ _ hB R hf fun o ρ1 v G1 H1 fp1 n1 o1 ⟨ns, e1, hl, q⟩ => ?_
  obtain ⟨l, xs, ev, h, r⟩ := (o1.rqH n1.rp e1).lst_inv
  have := r.ints_inv
  subst this
  refine ⟨l, ns, ev, .inl h, hl, fun out p hs hm hp => ?_⟩
  have gp : G1 p = none := by
    cases e : G1 p with
    | none => rfl
    | some u => have := n1.rp.co.sub _ _ e; rw [hp] at this; cases this
  have n2 := Nxt.laid (o := .lst (out.map V.int)) n1.rp hp
  refine k (oI out) ρ1 (.ref p) G1 (upd H1 p (.lst (out.map V.int))) fp1 [p] (n1.trans n2) (.own upd_same gp (OTs.ints out) (fun z => nomatch z)) (fun b m z => ?_) (fun b m => ?_) (q out hs hm)
  · have : b = p := by simpa using m
    subst this
    obtain ⟨⟨o, e⟩, _⟩ := n1.rp.co.here z
    rw [hp] at e; cases e
  · have : b = p := by simpa using m
    subst this
    by_cases z : In fp b
    · exact .inr z
    · exact .inl (n1.st.fresh z hp)
/-- a list that rises is its own sorting -/
theorem sorted_same : ∀ {a b : List Int}, a.Pairwise (· < ·) → b.Pairwise (· < ·) → (∀ k, k ∈ a ↔ k ∈ b) → a = b
  | [], [], _, _, _ => rfl
  | [], y :: b, _, _, h => absurd ((h y).mpr List.mem_cons_self) (by simp)
  | x :: a, [], _, _, h => absurd ((h x).mp List.mem_cons_self) (by simp)
  | x :: a, y :: b, ha, hb, h => by
    obtain ⟨a1, a2⟩ := List.pairwise_cons.mp ha
    obtain ⟨b1, b2⟩ := List.pairwise_cons.mp hb
    have e : x = y := by
      rcases List.mem_cons.mp ((h x).mp List.mem_cons_self) with e | m
      · exact e
      · rcases List.mem_cons.mp ((h y).mpr List.mem_cons_self) with e | m2
        · exact e.symm
        · have := b1 x m
          have := a1 y m2
          omega
    subst e
    rw [sorted_same a2 b2 fun k => ?_]
    constructor
    · intro m
      rcases List.mem_cons.mp ((h k).mp (List.mem_cons_of_mem _ m)) with e | m2
      · have := a1 k m
        omega
      · exact m2
    · intro m
      rcases List.mem_cons.mp ((h k).mpr (List.mem_cons_of_mem _ m)) with e | m2
      · have := b1 k m
        omega
      · exact m2
end DL

namespace DL
open PySem PySem.Spec PyProof.Rows L2 He
/-! ### the facts of properties -/
structure PrD where
  cls : Str
  prop : Str
  d : DefD
def pgA (K : PySem.W.Frag) (C f : Str) : Addr := match PySem.W.recIn K (ma K (ga K C) f) "property" with
  | some (.ref g :: _) => g
  | _ => 0
def fnWA (K : PySem.W.Frag) (a : Addr) : FnW := match K.lookup a with
  | some ⟨_, _, .func z, _⟩ => some (z.name, z.qualname, z.params, z.body, z.scope, z.globals, z.closure, z.builtins)
  | _ => none
def PrD.okB (K : PySem.W.Frag) (p : PrD) : Bool := eqO (PySem.W.findIn K (.ref (ga K p.cls)) p.prop) (some (some (.ref (ma K (ga K p.cls) p.prop)))) &&
  (eqO (PySem.W.specialIn K (.ref (ma K (ga K p.cls) p.prop)) "__get__") (some (some (.builtin "property.__get__"))) && (decide (PySem.W.takesIn K (.ref (ma K (ga K p.cls) p.prop)) = some true) &&
  ((match PySem.W.recIn K (ma K (ga K p.cls) p.prop) "property" with
    | some (.ref _ :: _) => true
    | _ => false) && (PySem.W.keepIn K (.ref (pgA K p.cls p.prop)) && (match K.lookup (pgA K p.cls p.prop) with
    | some ⟨_, _, .func z, _⟩ => PySem.W.codeIn K z.code p.d.qual && (dflB K z.defaults [] && kwdB K z.kwdefaults [])
    | _ => false)))))
theorem PrD.ok {K : PySem.W.Frag} {p : PrD} (c : p.okB K = true) (e : fnWA K (pgA K p.cls p.prop) = p.d.val) :
    PropOf K (ga K p.cls) p.prop (ma K (ga K p.cls) p.prop) (pgA K p.cls p.prop) ∧ ∃ fd, FunD K p.d.name p.d.qual p.d.params p.d.body p.d.scope [] [] (pgA K p.cls p.prop) fd := by
  obtain ⟨c1, c⟩ := ba c
  obtain ⟨c2, c⟩ := ba c
  obtain ⟨c3, c⟩ := ba c
  obtain ⟨c4, c⟩ := ba c
  obtain ⟨c5, c6⟩ := ba c
  constructor
  · refine ⟨eqO_ok c1, eqO_ok c2, of_decide_eq_true c3, ?_⟩
    unfold pgA
    cases q : PySem.W.recIn K (ma K (ga K p.cls) p.prop) "property" with
    | none => rw [q] at c4; cases c4
    | some vs =>
      rw [q] at c4
      match vs, c4 with
      | .ref g :: rest, _ => exact ⟨rest, rfl⟩
  · unfold fnWA at e
    cases q : K.lookup (pgA K p.cls p.prop) with
    | none => rw [q] at c6; cases c6
    | some o =>
      obtain ⟨oc, od, dt, osl⟩ := o
      rw [q] at c6 e
      cases dt with
      | func z =>
        obtain ⟨n1, n2, n3, n4, n5, n6, n7, n8, n9, n10, n11, n12, n13, n14, n15⟩ := z
        have e2 : (some (n1, n2, n3, n4, n5, n6, n7, n15) : FnW) = some (p.d.name, p.d.qual, p.d.params, .stmts p.d.body, p.d.scope, mainGlobals, [], builtinsNs) := e
        simp only [Option.some.injEq, Prod.mk.injEq] at e2
        obtain ⟨h1, h2, h3, h4, h5, h6, h7, h8⟩ := e2
        subst h1 h2 h3 h4 h5 h6 h7 h8
        have c7 : (PySem.W.codeIn K n13 p.d.qual && (dflB K n8 [] && kwdB K n9 [])) = true := c6
        obtain ⟨k1, k2⟩ := ba c7
        obtain ⟨k3, k4⟩ := ba k2
        exact ⟨_, ⟨oc, od, n8, n9, n10, n11, n12, n13, n14, osl, rfl, q, k1, dflB_ok k3, kwdB_ok k4⟩, c5⟩
      | _ => cases c6
/-- ints of a dict -/
def tabB (K : PySem.W.Frag) (x : Str) (T : List (Str × Int)) : Bool := T.all fun q => match PySem.W.nsIn K (ga K x) q.1 with
  | some (some (.int j _)) => decide (j = q.2)
  | _ => false
theorem tabB_ok {K : PySem.W.Frag} {w : World} {x : Str} {T : List (Str × Int)} (h : tabB K x T = true) (e : ∃ es n, KDict K w (ga K x) es n) : KTab K w (ga K x) T := ⟨e, fun z i m => by
  have h2 := List.all_eq_true.mp h (z, i) m
  cases q : PySem.W.nsIn K (ga K x) z with
  | none => rw [q] at h2; cases h2
  | some r =>
    rw [q] at h2
    cases r with
    | none => cases h2
    | some v =>
      cases v with
      | int j t => exact ⟨t, by rw [of_decide_eq_true h2]⟩
      | _ => cases h2⟩
def limB (K : PySem.W.Frag) : Bool := match PySem.W.nsIn K cStatics "sys.int_max_str_digits" with
  | some none => true
  | _ => false
theorem limB_ok {K : PySem.W.Frag} (h : limB K = true) : LimK K := by
  unfold limB at h
  unfold LimK
  split at h
  · assumption
  · cases h
abbrev AlX : Type := AlT × (Bool × List FnW)
def obsX (fa : List Fa) (fn : List DefD) (ts : List Tab) (ps : List PrD) (tb : List (Str × List (Str × Int))) (xf : List (PySem.W.Frag → Bool)) (K : PySem.W.Frag) : AlX := (obsT fa fn ts K, ((ps.all fun p => p.okB K) && ((tb.all fun q => tabB K q.1 q.2) && (limB K && xf.all fun t => t K))), ps.map fun p => fnWA K (pgA K p.cls p.prop))
def valX (fn : List DefD) (ts : List Tab) (ps : List PrD) (w : World) : AlX := (valT fn ts w, true, ps.map fun p => p.d.val)
def obsXG (n : Nat) (fa : List Fa) (fn : List DefD) (ts : List Tab) (ps : List PrD) (tb : List (Str × List (Str × Int))) (xf : List (PySem.W.Frag → Bool)) (g : Addr → Option Obj) : AlX := obsX fa fn ts ps tb xf (frG g (asD g n ++ [cStatics]))
def SaysX (fa : List Fa) (fn : List DefD) (ts : List Tab) (ps : List PrD) (tb : List (Str × List (Str × Int))) (xf : List (PySem.W.Frag → Bool)) (w : World) (K : PySem.W.Frag) : Prop := obsX fa fn ts ps tb xf K = valX fn ts ps w
def hookX (n : Nat) (fa : List Fa) (fn : List DefD) (ts : List Tab) (ps : List PrD) (tb : List (Str × List (Str × Int))) (xf : List (PySem.W.Frag → Bool)) : PySem.W.Hook where
  α := AlX
  obs := fun s => obsXG n fa fn ts ps tb xf s.heap.get?
  val := fun w => valX fn ts ps w
  says := fun w h => ∃ K : PySem.W.Frag, K.In h ∧ SaysX fa fn ts ps tb xf w K
  of := fun _ _ e => ⟨_, frG_in, e⟩
  keeps := fun _ _ _ ⟨K, h1, c⟩ k => ⟨K, PySem.W.Frag.In.keeps h1 k, c⟩
theorem obsXG_eq {n : Nat} {fa : List Fa} {fn : List DefD} {ts : List Tab} {ps : List PrD} {tb : List (Str × List (Str × Int))} {xf : List (PySem.W.Frag → Bool)} {g : Addr → Option Obj} {s : Shared} (h : ∀ a, g a = s.heap.get? a) : obsXG n fa fn ts ps tb xf g = (hookX n fa fn ts ps tb xf).obs s := by
  have e : g = s.heap.get? := funext h
  subst e
  rfl
section
variable {fa : List Fa} {fn : List DefD} {ts : List Tab} {ps : List PrD} {tb : List (Str × List (Str × Int))} {xf : List (PySem.W.Frag → Bool)} {w : World} {K : PySem.W.Frag}
theorem SaysX.t (c : SaysX fa fn ts ps tb xf w K) : SaysT fa fn ts w K := congrArg (fun z : AlX => z.1) c
theorem SaysX.pr (c : SaysX fa fn ts ps tb xf w K) (i : Nat) {p : PrD} (h : ps[i]? = some p := by rfl) : PropOf K (ga K p.cls) p.prop (ma K (ga K p.cls) p.prop) (pgA K p.cls p.prop) ∧ ∃ fd, FunD K p.d.name p.d.qual p.d.params p.d.body p.d.scope [] [] (pgA K p.cls p.prop) fd := by
  have c1 := (ba (show ((ps.all fun p => p.okB K) && ((tb.all fun q => tabB K q.1 q.2) && (limB K && xf.all fun t => t K))) = true from congrArg (fun z : AlX => z.2.1) c)).1
  have e : ps.map (fun p => fnWA K (pgA K p.cls p.prop)) = ps.map fun p => p.d.val := congrArg (fun z : AlX => z.2.2) c
  have e2 : (ps.map fun p => fnWA K (pgA K p.cls p.prop))[i]? = (ps.map fun p => p.d.val)[i]? := by rw [e]
  rw [List.getElem?_map, List.getElem?_map, h] at e2
  exact PrD.ok (List.all_eq_true.mp c1 p (List.mem_of_getElem? h)) (Option.some.inj e2)
theorem SaysX.tb_ (c : SaysX fa fn ts ps tb xf w K) (i : Nat) {q : Str × List (Str × Int)} (h : tb[i]? = some q := by rfl) : tabB K q.1 q.2 = true :=
  List.all_eq_true.mp (ba (ba (show ((ps.all fun p => p.okB K) && ((tb.all fun q => tabB K q.1 q.2) && (limB K && xf.all fun t => t K))) = true from congrArg (fun z : AlX => z.2.1) c)).2).1 q (List.mem_of_getElem? h)
end
theorem SaysX.lim {fa : List Fa} {fn : List DefD} {ts : List Tab} {ps : List PrD} {tb : List (Str × List (Str × Int))} {xf : List (PySem.W.Frag → Bool)} {w : World} {K : PySem.W.Frag} (c : SaysX fa fn ts ps tb xf w K) : LimK K :=
  limB_ok (ba (ba (ba (show ((ps.all fun p => p.okB K) && ((tb.all fun q => tabB K q.1 q.2) && (limB K && xf.all fun t => t K))) = true from congrArg (fun z : AlX => z.2.1) c)).2).2).1
theorem SaysX.xf_ {fa : List Fa} {fn : List DefD} {ts : List Tab} {ps : List PrD} {tb : List (Str × List (Str × Int))} {xf : List (PySem.W.Frag → Bool)} {w : World} {K : PySem.W.Frag} (c : SaysX fa fn ts ps tb xf w K) (i : Nat) {t : PySem.W.Frag → Bool} (h : xf[i]? = some t := by rfl) : t K = true :=
  List.all_eq_true.mp (ba (ba (ba (show ((ps.all fun p => p.okB K) && ((tb.all fun q => tabB K q.1 q.2) && (limB K && xf.all fun t => t K))) = true from congrArg (fun z : AlX => z.2.1) c)).2).2).2 t (List.mem_of_getElem? h)
/-- the j-th stmt of a class -/
def clsAt : Stmt → Nat → Stmt
  | .ClassDef _ _ _ b _ _ _ _ _ _ _, j => b.getD j (.Pass ⟨0, 0, 0, 0⟩)
  | _, _ => .Pass ⟨0, 0, 0, 0⟩
end DL

namespace DL
open PySem PySem.Spec PyProof.Rows L2
section
variable {X : Cx} {io : List Nat} {a b c : Expr} {pos : Pos} {fa fb fc : FO}
theorem q_chn {op op' : CmpOp} {r r' : R2} {f g : Op2} (ho : OpR X (compareOp op) r) (ho' : OpR X (compareOp op') r') (hr : ScR X.K r f) (hr' : ScR X.K r' g) (ha : PDo X io a fa) (hb : PDo X io b fb) (hc : PDo X io c fc) (hm : lastMarks [op, op'] [b, c] = false := by with_unfolding_all rfl) :
    PDt X io (.Compare a [op, op'] [b, c] pos) (fTst (fChn f g fa fb fc)) := by
  obtain ⟨ta, a1, a2⟩ := ha
  obtain ⟨tb, b1, b2⟩ := hb
  obtain ⟨tc, c1, c2⟩ := hc
  exact ⟨_, pt_chain ho ho' a1 b1 c1 hm, dt_T (dv_chain hr hr' a2 b2 c2)⟩
end
/-- a setting of the world, told apart -/
theorem split_f (f : String → Bool) : ∃ (b : Bool) (g : String → Bool), f = fun r => if r = "special-get-raises" then b else g r := ⟨f "special-get-raises", f, by
  funext r
  split
  · next h => rw [h]
  · rfl⟩
/-! a, b, c, d = x, y, z, u: a tuple is made and taken apart, the trees stay owned -/
@[simp] def fPar4 (io : List Nat) (i j l m : Nat) (fs : FSs) : FS := fun D ρ => fs ρ fun ts ρ1 => ∃ t u w r, ts = [t, u, w, r] ∧ i ∉ io ∧ j ∉ io ∧ l ∉ io ∧ m ∉ io ∧ D.nx ((((ρ1.set i (some t)).set j (some u)).set l (some w)).set m (some r))
theorem OTs.four {K : PySem.W.Frag} {G H : Hp} {vs : List V} {t u w r : SV} {fr : List Addr} (h : OTs K G H vs [t, u, w, r] fr) : ∃ x y z q f1 f2 f3 f4, vs = [x, y, z, q] ∧ OT K G H x t f1 ∧ OT K G H y u f2 ∧ OT K G H z w f3 ∧ OT K G H q r f4 ∧
    (∀ a ∈ f1, a ∉ f2) ∧ (∀ a ∈ f1, a ∉ f3) ∧ (∀ a ∈ f1, a ∉ f4) ∧ (∀ a ∈ f2, a ∉ f3) ∧ (∀ a ∈ f2, a ∉ f4) ∧ (∀ a ∈ f3, a ∉ f4) ∧ (∀ a ∈ f1, a ∈ fr) ∧ (∀ a ∈ f2, a ∈ fr) ∧ (∀ a ∈ f3, a ∈ fr) ∧ ∀ a ∈ f4, a ∈ fr := by
  cases h with
  | cons a b d =>
    obtain ⟨y, z, q, f2, f3, f4, rfl, o2, o3, o4, d23, d24, d34, i2, i3, i4⟩ := b.three
    exact ⟨_, y, z, q, _, f2, f3, f4, rfl, a, o2, o3, o4, fun x m m' => d x m (i2 x m'), fun x m m' => d x m (i3 x m'), fun x m m' => d x m (i4 x m'), d23, d24, d34, fun x m => List.mem_append_left _ m, fun x m => List.mem_append_right _ (i2 x m), fun x m => List.mem_append_right _ (i3 x m), fun x m => List.mem_append_right _ (i4 x m)⟩
theorem s_un4 {X : Cx} {io : List Nat} {i j l m : Nat} {x y z u : Str} {a b c d : Expr} {fs : FSs} {px py pz pu pt pos : Pos} {kt k2 : Nat} {pt2 : Pos} (hc : X.calm = true) (hN : X.N.Nodup) (h : PDs' X io [a, b, c, d] fs) (hi : X.N[i]? = some x := by rfl) (hj : X.N[j]? = some y := by rfl) (hl : X.N[l]? = some z := by rfl) (hm : X.N[m]? = some u := by rfl)
    (hx : Loc X.env.scope x := by first | exact Or.inl rfl | exact Or.inr rfl) (hy : Loc X.env.scope y := by first | exact Or.inl rfl | exact Or.inr rfl) (hz : Loc X.env.scope z := by first | exact Or.inl rfl | exact Or.inr rfl) (hu : Loc X.env.scope u := by first | exact Or.inl rfl | exact Or.inr rfl)
    (fx : X.fn x = true ∨ X.env.scope.names.lookup x = some .local := by first | exact .inl rfl | exact .inr rfl) (fy : X.fn y = true ∨ X.env.scope.names.lookup y = some .local := by first | exact .inl rfl | exact .inr rfl)
    (fz : X.fn z = true ∨ X.env.scope.names.lookup z = some .local := by first | exact .inl rfl | exact .inr rfl) (fu : X.fn u = true ∨ X.env.scope.names.lookup u = some .local := by first | exact .inl rfl | exact .inr rfl)
    (hs : swapsWithSole [.Tuple [.Name x px, .Name y py, .Name z pz, .Name u pu] kt pt] (.Tuple [a, b, c, d] k2 pt2) pos.line X.env = pure false := by rfl) (hw : swappedStores [.Tuple [.Name x px, .Name y py, .Name z pz, .Name u pu] kt pt] (.Tuple [a, b, c, d] k2 pt2) X.env = pure none := by rfl)
    (h1 : (assignEach [.Tuple [.Name x px, .Name y py, .Name z pz, .Name u pu] kt pt] X.env).map (·.2) = [assign (.Tuple [.Name x px, .Name y py, .Name z pz, .Name u pu] kt pt) X.env] := by rfl)
    (c1 : (assignEach [.Name x px, .Name y py, .Name z pz, .Name u pu] X.env).map (·.2) = assign (.Name x px) X.env :: (assignEach [.Name y py, .Name z pz, .Name u pu] X.env).map (·.2) := by rfl)
    (c2 : (assignEach [.Name y py, .Name z pz, .Name u pu] X.env).map (·.2) = assign (.Name y py) X.env :: (assignEach [.Name z pz, .Name u pu] X.env).map (·.2) := by rfl)
    (c3 : (assignEach [.Name z pz, .Name u pu] X.env).map (·.2) = assign (.Name z pz) X.env :: (assignEach [.Name u pu] X.env).map (·.2) := by rfl)
    (c4 : (assignEach [.Name u pu] X.env).map (·.2) = assign (.Name u pu) X.env :: (assignEach [] X.env).map (·.2) := by rfl)
    (hn : (assignEach [.Name x px, .Name y py, .Name z pz, .Name u pu] X.env).length = 4 := by rfl) (hst : (assignEach [.Name x px, .Name y py, .Name z pz, .Name u pu] X.env).findIdx? (·.1) = none := by rfl) :
    PDs X io (.Assign [.Tuple [.Name x px, .Name y py, .Name z pz, .Name u pu] kt pt] (.Tuple [a, b, c, d] k2 pt2) pos) (fPar4 io i j l m fs) := by
  obtain ⟨ta, a1, a2⟩ := h
  refine ⟨_, ps_asg (pe_tup a1) (pg_tup hc (pgs_cons (pg_name hN hi hx fx) (pgs_cons (pg_name hN hj hy fy) (pgs_cons (pg_name hN hl hz fz) (pgs_cons (pg_name hN hm hu fu) pgs_nil c4) c3) c2) c1) hn hst) hs hw h1, fun B G H σ ρ fp Dd Dh hB R hf s => ?_⟩
  refine a2 B G H σ ρ fp _ _ hB R hf fun ts ρ1 vs G1 H1 fp1 fr n os t1 t2 ⟨t, u, w, r, et, hi', hj', hl', hm', q⟩ => ?_
  subst et
  refine ⟨by rw [os.length]; show 4 ≤ sizeLine; decide, fun p hp => ?_⟩
  obtain ⟨v1, v2, v3, v4, f1, f2, f3, f4, rfl, o1, o2, o3, o4, d12, d13, d14, d23, d24, d34, in1, in2, in3, in4⟩ := os.four
  have n2 := n.trans (Nxt.laid n.rp (o := .tup [v1, v2, v3, v4]) hp)
  have hb := R.base t2
  have up : ∀ {z : V} {e : SV} {f : List Addr}, OT X.K G1 H1 z e f → OT X.K G1 (upd H1 p (.tup [v1, v2, v3, v4])) z e f := fun o => o.mono (Sub.refl _) (fun b m e g => by
    rw [upd_ne (show b ≠ p from fun z => by rw [z, hp] at g; cases g)]; exact g) fun b m => (o.here b m).2
  have R1 := n2.rp.put (i := i) (by rw [hB]; exact hi') (up o1) (fun c m => t1 c (in1 c m)) (fun c m => hb c (in1 c m))
  have R2 := R1.put (i := j) (by rw [hB]; exact hj') (up o2) (out_put (fun c m => t1 c (in2 c m)) d12) (fun c m => hb c (in2 c m))
  have R3 := R2.put (i := l) (by rw [hB]; exact hl') (up o3) (out_put (out_put (fun c m => t1 c (in3 c m)) d13) d23) (fun c m => hb c (in3 c m))
  have R4 := R3.put (i := m) (by rw [hB]; exact hm') (up o4) (out_put (out_put (out_put (fun c m => t1 c (in4 c m)) d14) d24) d34) (fun c m => hb c (in4 c m))
  exact ⟨p, [v1, v2, v3, v4], rfl, .inl (.inl upd_same), rfl, v1, [v2, v3, v4], rfl, v2, [v3, v4], rfl, v3, [v4], rfl, v4, [], rfl, rfl, s.nx _ _ _ _ _ R4 q⟩
end DL

namespace DL
open PySem PySem.Spec PyProof.Rows L2
/-! ### places within trees -/
def setF (x : Str) (t : SV) : List (Str × SV) → List (Str × SV)
  | [] => []
  | (g, y) :: r => if g = x then (g, t) :: r else (g, y) :: setF x t r
def putT (x : Str) (t : SV) : List (Str × SV) → List (Str × SV)
  | [] => [(x, t)]
  | (g, y) :: r => if g = x then (g, t) :: r else (g, y) :: putT x t r
/-- one part is put into another's stead -/
def Rep (K : PySem.W.Frag) (G H : Hp) (f f1 : List Addr) (v1 : V) (P : Hp → Hp → SV → List Addr → Prop) : Prop :=
  ∀ (G' H' : Hp) (t' : SV) (f1' : List Addr), Sub G G' → (∀ a ∈ f, a ∉ f1 → (∀ o, H a = some o → H' a = some o) ∧ G' a = none) → OT K G' H' v1 t' f1' → (∀ a ∈ f1', a ∈ f1 ∨ a ∉ f) →
    ∃ f', P G' H' t' f' ∧ ∀ a ∈ f', (a ∈ f ∧ a ∉ f1) ∨ a ∈ f1'
section
variable {K : PySem.W.Frag} {G H : Hp}
theorem OTf.part : ∀ {fs : List (Str × SV)} {vs : List (Str × V)} {f : List Addr} {x : Str} {t1 : SV}, OTf K G H vs fs f → fs.lookup x = some t1 →
    ∃ v1 f1, vs.lookup x = some v1 ∧ OT K G H v1 t1 f1 ∧ (∀ a ∈ f1, a ∈ f) ∧ Rep K G H f f1 v1 fun G' H' t' f' => OTf K G' H' vs (setF x t' fs) f'
  | [], _, _, _, _, _, e => by cases e
  | (g, y) :: r, _, _, x, t1, h, e => by
    cases h with
    | cons a b d =>
      rename_i v vs f1 f2
      rw [List.lookup_cons] at e
      by_cases q : g = x
      · subst q
        rw [show (g == g) = true from beq_self_eq_true g] at e
        injection e with e
        subst e
        refine ⟨v, f1, by rw [List.lookup_cons, show (g == g) = true from beq_self_eq_true g], a, fun z m => List.mem_append_left _ m, fun G' H' t' f1' s k o n => ?_⟩
        have k2 : ∀ z ∈ f2, (∀ u, H z = some u → H' z = some u) ∧ G' z = none := fun z m => k z (List.mem_append_right _ m) fun m' => d z m' m
        dsimp only
        rw [setF, if_pos rfl]
        refine ⟨f1' ++ f2, .cons o (b.mono s (fun z m u e => (k2 z m).1 u e) fun z m => (k2 z m).2) fun z m m' => ?_, fun z m => ?_⟩
        · rcases n z m with w | w
          · exact d z w m'
          · exact w (List.mem_append_right _ m')
        · rcases List.mem_append.mp m with m | m
          · exact .inr m
          · exact .inl ⟨List.mem_append_right _ m, fun w => d z w m⟩
      · have q' : (x == g) = false := by
          cases z : x == g with
          | false => rfl
          | true => exact absurd (eq_of_beq z).symm q
        rw [q'] at e
        obtain ⟨v1, g1, l1, o1, i1, rp⟩ := OTf.part b e
        refine ⟨v1, g1, by rw [List.lookup_cons, q']; exact l1, o1, fun z m => List.mem_append_right _ (i1 z m), fun G' H' t' f1' s k o n => ?_⟩
        have ka : ∀ z ∈ f1, (∀ u, H z = some u → H' z = some u) ∧ G' z = none := fun z m => k z (List.mem_append_left _ m) fun m' => d z m (i1 z m')
        obtain ⟨f', p, inn⟩ := rp G' H' t' f1' s (fun z m m' => k z (List.mem_append_right _ m) m') o fun z m => (n z m).imp id fun w m' => w (List.mem_append_right _ m')
        dsimp only
        rw [setF, if_neg q]
        refine ⟨f1 ++ f', .cons (a.mono s (fun z m u e => (ka z m).1 u e) fun z m => (ka z m).2) p fun z m m' => ?_, fun z m => ?_⟩
        · rcases inn z m' with ⟨w, _⟩ | w
          · exact d z m w
          · rcases n z w with w | w
            · exact d z m (i1 z w)
            · exact w (List.mem_append_left _ m)
        · rcases List.mem_append.mp m with m | m
          · exact .inl ⟨List.mem_append_left _ m, fun w => d z m (i1 z w)⟩
          · rcases inn z m with ⟨w, w2⟩ | w
            · exact .inl ⟨List.mem_append_right _ w, w2⟩
            · exact .inr w
theorem OTs.part : ∀ {ts : List SV} {vs : List V} {f : List Addr} {j : Nat} {t1 : SV}, OTs K G H vs ts f → ts[j]? = some t1 →
    ∃ v1 f1, vs[j]? = some v1 ∧ OT K G H v1 t1 f1 ∧ (∀ a ∈ f1, a ∈ f) ∧ Rep K G H f f1 v1 fun G' H' t' f' => OTs K G' H' vs (ts.set j t') f'
  | [], _, _, _, _, _, e => by simp at e
  | y :: r, _, _, 0, t1, h, e => by
    cases h with
    | cons a b d =>
      rename_i v vs f1 f2
      have : y = t1 := by simpa using e
      subst this
      refine ⟨v, f1, rfl, a, fun z m => List.mem_append_left _ m, fun G' H' t' f1' s k o n => ?_⟩
      have k2 : ∀ z ∈ f2, (∀ u, H z = some u → H' z = some u) ∧ G' z = none := fun z m => k z (List.mem_append_right _ m) fun m' => d z m' m
      refine ⟨f1' ++ f2, .cons o (b.mono s (fun z m u e => (k2 z m).1 u e) fun z m => (k2 z m).2) fun z m m' => ?_, fun z m => ?_⟩
      · rcases n z m with w | w
        · exact d z w m'
        · exact w (List.mem_append_right _ m')
      · rcases List.mem_append.mp m with m | m
        · exact .inr m
        · exact .inl ⟨List.mem_append_right _ m, fun w => d z w m⟩
  | y :: r, _, _, j + 1, t1, h, e => by
    cases h with
    | cons a b d =>
      rename_i v vs f1 f2
      obtain ⟨v1, g1, l1, o1, i1, rp⟩ := OTs.part (j := j) b (by simpa using e)
      refine ⟨v1, g1, by simpa using l1, o1, fun z m => List.mem_append_right _ (i1 z m), fun G' H' t' f1' s k o n => ?_⟩
      have ka : ∀ z ∈ f1, (∀ u, H z = some u → H' z = some u) ∧ G' z = none := fun z m => k z (List.mem_append_left _ m) fun m' => d z m (i1 z m')
      obtain ⟨f', p, inn⟩ := rp G' H' t' f1' s (fun z m m' => k z (List.mem_append_right _ m) m') o fun z m => (n z m).imp id fun w m' => w (List.mem_append_right _ m')
      refine ⟨f1 ++ f', .cons (a.mono s (fun z m u e => (ka z m).1 u e) fun z m => (ka z m).2) p fun z m m' => ?_, fun z m => ?_⟩
      · rcases inn z m' with ⟨w, _⟩ | w
        · exact d z m w
        · rcases n z w with w | w
          · exact d z m (i1 z w)
          · exact w (List.mem_append_left _ m)
      · rcases List.mem_append.mp m with m | m
        · exact .inl ⟨List.mem_append_left _ m, fun w => d z m (i1 z w)⟩
        · rcases inn z m with ⟨w, w2⟩ | w
          · exact .inl ⟨List.mem_append_right _ w, w2⟩
          · exact .inr w
end
/-- a place: its slot, what stands there, the slot's tree behind a change -/
structure PV where
  i : Nat
  u : SV
  put : SV → SV
abbrev FQ := Rho → Option PV
def onQ (o : Option PV) (f : PV → Prop) : Prop := match o with
  | some q => f q
  | none => False
@[simp] theorem onQ_some (q : PV) (f : PV → Prop) : onQ (some q) f = f q := rfl
def onOb (C : Addr) (t : SV) (f : List (Str × SV) → Prop) : Prop := match t with
  | .ob D fs => D = C ∧ f fs
  | _ => False
@[simp] theorem onOb_ob (C : Addr) (fs : List (Str × SV)) (f : List (Str × SV) → Prop) : onOb C (.ob C fs) f = f fs := by simp [onOb]
def onOwn (t : SV) (f : List SV → Prop) : Prop := match t with
  | .own ts => f ts
  | _ => False
@[simp] theorem onOwn_own (ts : List SV) (f : List SV → Prop) : onOwn (.own ts) f = f ts := rfl
def onDat (t : SV) (f : DD → Prop) : Prop := match t with
  | .dat d => f d
  | _ => False
@[simp] theorem onDat_dat (d : DD) (f : DD → Prop) : onDat (.dat d) f = f d := rfl
theorem onQ_of {o : Option PV} {f : PV → Prop} (h : onQ o f) : ∃ q, o = some q ∧ f q := by
  cases o with
  | none => exact h.elim
  | some q => exact ⟨q, rfl, h⟩
theorem onOb_of {C : Addr} {t : SV} {f : List (Str × SV) → Prop} (h : onOb C t f) : ∃ fs, t = .ob C fs ∧ f fs := by
  cases t with
  | ob D fs => obtain ⟨rfl, h⟩ := h; exact ⟨fs, rfl, h⟩
  | _ => exact h.elim
theorem onOwn_of {t : SV} {f : List SV → Prop} (h : onOwn t f) : ∃ ts, t = .own ts ∧ f ts := by
  cases t with
  | own ts => exact ⟨ts, rfl, h⟩
  | _ => exact h.elim
theorem onDat_of {t : SV} {f : DD → Prop} (h : onDat t f) : ∃ d, t = .dat d ∧ f d := by
  cases t with
  | dat d => exact ⟨d, rfl, h⟩
  | _ => exact h.elim
@[simp] def qN (i : Nat) : FQ := fun ρ => ρ[i]?.join.map fun t => ⟨i, t, id⟩
@[simp] def stF (C : Addr) (x : Str) (q : PV) : Option PV := match q.u with
  | .ob D fs => if D = C then (fs.lookup x).map fun w => ⟨q.i, w, fun w' => q.put (.ob D (setF x w' fs))⟩ else none
  | .dat (.obj D ds) => if D = C then (ds.lookup x).map fun d => ⟨q.i, .dat d, fun _ => q.put q.u⟩ else none
  | _ => none
@[simp] def stI (k : Int) (q : PV) : Option PV := match q.u with
  | .own ts => (ixN ts.length k).bind fun j => ts[j]?.map fun w => ⟨q.i, w, fun w' => q.put (.own (ts.set j w'))⟩
  | .tp ts => (ixN ts.length k).bind fun j => ts[j]?.map fun w => ⟨q.i, w, fun w' => q.put (.tp (ts.set j w'))⟩
  | .dat (.lst ds) => (atI ds k).map fun d => ⟨q.i, .dat d, fun _ => q.put q.u⟩
  | .dat (.tup ds) => (atI ds k).map fun d => ⟨q.i, .dat d, fun _ => q.put q.u⟩
  | _ => none
@[simp] def qF (C : Addr) (x : Str) (p : FQ) : FQ := fun ρ => (p ρ).bind (stF C x)
@[simp] def qI (k : Rho → Option Int) (p : FQ) : FQ := fun ρ => (p ρ).bind fun q => (k ρ).bind fun i => stI i q
/-- the place as it stands in a heap -/
structure At (K : PySem.W.Frag) (G H : Hp) (σ : L2.St) (ρ : Rho) (fp : Nat → List Addr) (q : PV) (v' : V) (f1 : List Addr) : Prop where
  ex : ∃ t v, ρ[q.i]? = some (some t) ∧ σ[q.i]? = some (some v) ∧ OT K G H v t (fp q.i) ∧ Rep K G H (fp q.i) f1 v' fun G' H' t' f' => OT K G' H' v (q.put t') f'
  ot : OT K G H v' q.u f1
  sub : ∀ a ∈ f1, a ∈ fp q.i
def DQ (K : PySem.W.Frag) (te : TE) (p : FQ) : Prop := ∀ (B : Bs) G H σ ρ fp, Rp K B G H σ ρ fp → ∀ q, p ρ = some q → ∃ v' f1, At K G H σ ρ fp q v' f1 ∧ ∀ Q : VK, Q v' H → te σ H Q
def PDq (X : Cx) (e : Expr) (p : FQ) : Prop := ∃ te, PE X e te ∧ DQ X.K te p
/-- an index that changes nothing -/
def DK (K : PySem.W.Frag) (te : TE) (k : Rho → Option Int) : Prop := ∀ (B : Bs) G H σ ρ fp, Rp K B G H σ ρ fp → ∀ i, k ρ = some i → ∀ Q : VK, Q (.int i) H → te σ H Q
def PDk (X : Cx) (e : Expr) (k : Rho → Option Int) : Prop := ∃ te, PE X e te ∧ DK X.K te k
section
variable {X : Cx} {e b o : Expr} {pos p1 p2 : Pos}
@[simp] def kC (i : Int) : Rho → Option Int := fun _ => some i
@[simp] def kV (j : Nat) : Rho → Option Int := fun ρ => match ρ[j]? with
  | some (some (.dat (.int i))) => some i
  | _ => none
theorem k_int {i : Int} {j : Nat} : PDk X (.Constant (.int i) j pos) (kC i) := ⟨_, pe_int, fun _ _ _ _ _ _ _ _ e _ q => by cases e; exact q⟩
theorem k_neg {i : Int} {j : Nat} : PDk X (.UnaryOp .USub (.Constant (.int i) j p1) p2) (kC (-i)) := ⟨_, pe_un un_neg pe_int, fun _ _ _ _ _ _ _ _ e Q q => by cases e; exact ⟨i, rfl, q⟩⟩
theorem k_var {te : TE} (j : Nat) (h : PE X e te) (ht : te = tVar j) : PDk X e (kV j) := by
  subst ht
  refine ⟨_, h, fun B G H σ ρ fp R i ei Q q => ?_⟩
  unfold kV at ei
  split at ei
  · rename_i z hz
    cases ei
    obtain ⟨v, e1, ot⟩ := R.co.slot j _ hz
    obtain rfl := ot.dat_inv.1.int_inv
    exact ⟨_, e1, q⟩
  · cases ei
theorem q_n {te : TE} (i : Nat) (h : PE X e te) (ht : te = tVar i) : PDq X e (qN i) := by
  subst ht
  refine ⟨_, h, fun B G H σ ρ fp R q eq => ?_⟩
  unfold qN at eq
  cases ej : ρ[i]?.join with
  | none => rw [ej] at eq; cases eq
  | some t =>
    rw [ej] at eq
    cases eq
    have et := join_some ej
    obtain ⟨v, e1, ot⟩ := R.co.slot i t et
    exact ⟨v, fp i, ⟨⟨t, v, et, e1, ot, fun G' H' t' f1' s k o n => ⟨f1', o, fun a m => .inr m⟩⟩, ot, fun a m => m⟩, fun Q q => ⟨v, e1, q⟩⟩
theorem At.next {K : PySem.W.Frag} {G H : Hp} {σ : L2.St} {ρ : Rho} {fp : Nat → List Addr} {q : PV} {v' : V} {f1 : List Addr} (A : At K G H σ ρ fp q v' f1) {w : SV} {v2 : V} {f2 : List Addr} {g : SV → SV}
    (ot : OT K G H v2 w f2) (sub : ∀ a ∈ f2, a ∈ f1) (rp : Rep K G H f1 f2 v2 fun G' H' t' f' => OT K G' H' v' (g t') f') : At K G H σ ρ fp ⟨q.i, w, fun w' => q.put (g w')⟩ v2 f2 := by
  obtain ⟨t, v, e1, e2, o1, r1⟩ := A.ex
  refine ⟨⟨t, v, e1, e2, o1, fun G' H' t' f' s k o n => ?_⟩, ot, fun a m => A.sub a (sub a m)⟩
  obtain ⟨f3, o3, i3⟩ := rp G' H' t' f' s (fun a m m' => k a (A.sub a m) m') o (fun a m => (n a m).imp id fun z m' => z (A.sub a m'))
  obtain ⟨f4, o4, i4⟩ := r1 G' H' (g t') f3 s (fun a m m' => k a m fun z => m' (sub a z)) o3 (fun a m => by
    rcases i3 a m with ⟨z, _⟩ | z
    · exact .inl z
    · exact (n a z).imp (sub a) id)
  refine ⟨f4, o4, fun a m => ?_⟩
  rcases i4 a m with ⟨z, z2⟩ | z
  · exact .inl ⟨z, fun w => z2 (sub a w)⟩
  · rcases i3 a z with ⟨y, y2⟩ | y
    · exact .inl ⟨A.sub a y, y2⟩
    · exact .inr y
theorem Rep.dat {K : PySem.W.Frag} {G H : Hp} {v v2 : V} {d : DD} {f2 : List Addr} (r : Rq K G v d) : Rep K G H [] f2 v2 fun G' H' t' f' => OT K G' H' v (.dat d) f' :=
  fun G' H' t' f' s k o n => ⟨[], .dat (r.mono s), fun _ m => nomatch m⟩
theorem q_f {x : Str} {p : FQ} {C : Addr} (hc : Cls X.K C) (hn : NoAttr X.K C x) (h : PDq X o p)
    (hb : attributeBase o x X.env (eval o X.env) = eval o X.env := by rfl) : PDq X (.Attribute o x pos) (qF C x p) := by
  obtain ⟨te, h1, h2⟩ := h
  refine ⟨_, pe_fld h1 hb, fun B G H σ ρ fp R q eq => ?_⟩
  unfold qF at eq
  cases e0 : p ρ with
  | none => rw [e0] at eq; cases eq
  | some q0 =>
    rw [e0] at eq
    have eq' : stF C x q0 = some q := eq
    obtain ⟨v', f1, A, go⟩ := h2 B G H σ ρ fp R q0 e0
    have ot := A.ot
    unfold stF at eq'
    split at eq'
    · rename_i D fs eu
      rw [eu] at ot
      split at eq'
      case isFalse => cases eq'
      rename_i eD
      subst eD
      cases el : fs.lookup x with
      | none => rw [el] at eq'; cases eq'
      | some w =>
        rw [el] at eq'
        cases eq'
        obtain ⟨a, dx, vs, f, ev, ef, a1, a2, g1, g2, os, ne, na, nd⟩ := ot.ob_inv
        subst ev
        obtain ⟨v1, f2, l1, o1, i1, rp⟩ := os.part el
        subst ef
        refine ⟨v1, f2, A.next (g := fun w' => .ob D (setF x w' fs)) o1 (fun z m => List.mem_cons_of_mem _ (List.mem_cons_of_mem _ (i1 z m))) fun G' H' t' f' s k o n => ?_, fun Q q => go _ ⟨a, D, dx, vs, v1, rfl, a1, hc, hn, l1, q⟩⟩
        have ka := k a List.mem_cons_self fun z => na (i1 a z)
        have kd := k dx (List.mem_cons_of_mem _ List.mem_cons_self) fun z => nd (i1 dx z)
        obtain ⟨f3, p3, i3⟩ := rp G' H' t' f' s (fun z m m' => k z (List.mem_cons_of_mem _ (List.mem_cons_of_mem _ m)) m') o fun z m => (n z m).imp id fun w m' => w (List.mem_cons_of_mem _ (List.mem_cons_of_mem _ m'))
        have out : ∀ z, z = a ∨ z = dx → z ∉ f3 := fun z ez m => by
          have nz : z ∉ f := by rcases ez with e | e <;> subst e <;> assumption
          rcases i3 z m with ⟨w, _⟩ | w
          · exact nz w
          · rcases n z w with w | w
            · exact nz (i1 z w)
            · rcases ez with e | e <;> subst e
              · exact w List.mem_cons_self
              · exact w (List.mem_cons_of_mem _ List.mem_cons_self)
        refine ⟨a :: dx :: f3, .ob (ka.1 _ a1) (kd.1 _ a2) ka.2 kd.2 p3 ne (out a (.inl rfl)) (out dx (.inr rfl)), fun z m => ?_⟩
        rcases List.mem_cons.mp m with e | m
        · subst e; exact .inl ⟨List.mem_cons_self, fun w => na (i1 _ w)⟩
        · rcases List.mem_cons.mp m with e | m
          · subst e; exact .inl ⟨List.mem_cons_of_mem _ List.mem_cons_self, fun w => nd (i1 _ w)⟩
          · exact (i3 z m).imp (fun ⟨w, w2⟩ => ⟨List.mem_cons_of_mem _ (List.mem_cons_of_mem _ w), w2⟩) id
    · rename_i D ds eu
      rw [eu] at ot
      split at eq'
      case isFalse => cases eq'
      rename_i eD
      subst eD
      cases el : ds.lookup x with
      | none => rw [el] at eq'; cases eq'
      | some d =>
        rw [el] at eq'
        cases eq'
        obtain ⟨rq, rfl⟩ := ot.dat_inv
        obtain ⟨a, dx, vs, ev, ga, rf⟩ := rq.obj_inv
        subst ev
        obtain ⟨v1, l1, r1⟩ := rf.look el
        refine ⟨v1, [], A.next (g := fun _ => q0.u) (.dat r1) (fun z m => nomatch m) ?_, fun Q q => go _ ⟨a, D, dx, vs, v1, rfl, R.co.sub _ _ ga, hc, hn, l1, q⟩⟩
        rw [eu]
        exact Rep.dat rq
    · cases eq'
theorem q_i {p : FQ} {k : Rho → Option Int} (h : PDq X o p) (hk : PDk X b k) (hs : PlainIx b := by exact fun _ _ => rfl) : PDq X (.Subscript o b pos) (qI k p) := by
  obtain ⟨te, h1, h2⟩ := h
  obtain ⟨tk, k1, k2⟩ := hk
  refine ⟨_, pe_ix ix_seq h1 k1 hs, fun B G H σ ρ fp R q eq => ?_⟩
  unfold qI at eq
  cases e0 : p ρ with
  | none => rw [e0] at eq; cases eq
  | some q0 =>
    rw [e0] at eq
    cases ek : k ρ with
    | none => rw [ek] at eq; cases eq
    | some i =>
      rw [ek] at eq
      have eq' : stI i q0 = some q := eq
      obtain ⟨v', f1, A, go⟩ := h2 B G H σ ρ fp R q0 e0
      have gk := k2 B G H σ ρ fp R i ek
      have ot := A.ot
      unfold stI at eq'
      split at eq'
      · rename_i ts eu
        rw [eu] at ot
        obtain ⟨a, vs, f, ev, ef, a1, g1, os, na⟩ := ot.own_inv
        subst ev ef
        cases ej : ixN ts.length i with
        | none => rw [ej] at eq'; cases eq'
        | some j =>
          rw [ej] at eq'
          cases et : ts[j]? with
          | none => simp [et] at eq'
          | some w =>
            simp [et] at eq'
            subst eq'
            obtain ⟨v1, f2, l1, o1, i1, rp⟩ := os.part et
            have ev : atI vs i = some v1 := by unfold atI; rw [os.length, ej]; exact l1
            refine ⟨v1, f2, A.next (g := fun w' => .own (ts.set j w')) o1 (fun z m => List.mem_cons_of_mem _ (i1 z m)) fun G' H' t' f' s k o n => ?_, fun Q q => go _ (gk _ (.inl ⟨a, vs, i, v1, rfl, rfl, .inl (.inl a1), ev, q⟩))⟩
            have ka := k a List.mem_cons_self fun z => na (i1 a z)
            obtain ⟨f3, p3, i3⟩ := rp G' H' t' f' s (fun z m m' => k z (List.mem_cons_of_mem _ m) m') o fun z m => (n z m).imp id fun w m' => w (List.mem_cons_of_mem _ m')
            refine ⟨a :: f3, .own (ka.1 _ a1) ka.2 p3 fun m => ?_, fun z m => ?_⟩
            · rcases i3 a m with ⟨w, _⟩ | w
              · exact na w
              · rcases n a w with w | w
                · exact na (i1 a w)
                · exact w List.mem_cons_self
            · rcases List.mem_cons.mp m with e | m
              · subst e; exact .inl ⟨List.mem_cons_self, fun w => na (i1 _ w)⟩
              · exact (i3 z m).imp (fun ⟨w, w2⟩ => ⟨List.mem_cons_of_mem _ w, w2⟩) id
      · rename_i ts eu
        rw [eu] at ot
        obtain ⟨a, vs, ev, a1, os⟩ := ot.tp_inv
        subst ev
        cases ej : ixN ts.length i with
        | none => rw [ej] at eq'; cases eq'
        | some j =>
          rw [ej] at eq'
          cases et : ts[j]? with
          | none => simp [et] at eq'
          | some w =>
            simp [et] at eq'
            subst eq'
            obtain ⟨v1, f2, l1, o1, i1, rp⟩ := os.part et
            have ev : atI vs i = some v1 := by unfold atI; rw [os.length, ej]; exact l1
            refine ⟨v1, f2, A.next (g := fun w' => .tp (ts.set j w')) o1 i1 fun G' H' t' f' s k o n => ?_, fun Q q => go _ (gk _ (.inr (.inl ⟨a, vs, i, v1, rfl, rfl, R.co.sub.t a1, ev, q⟩)))⟩
            obtain ⟨f3, p3, i3⟩ := rp G' H' t' f' s k o n
            exact ⟨f3, .tp (s.t a1) p3, i3⟩
      · rename_i ds eu
        rw [eu] at ot
        obtain ⟨rq, rfl⟩ := ot.dat_inv
        obtain ⟨a, xs, ev, hh, rs⟩ := rq.lst_inv
        subst ev
        cases ej : atI ds i with
        | none => rw [ej] at eq'; cases eq'
        | some d =>
          rw [ej] at eq'
          cases eq'
          obtain ⟨v1, e1, r1⟩ := atI_rqA rs ej
          refine ⟨v1, [], A.next (g := fun _ => q0.u) (.dat r1) (fun z m => nomatch m) ?_, fun Q q => go _ (gk _ (.inl ⟨a, xs, i, v1, rfl, rfl, .inl (R.co.sub.rd hh), e1, q⟩))⟩
          rw [eu]
          exact Rep.dat rq
      · rename_i ds eu
        rw [eu] at ot
        obtain ⟨rq, rfl⟩ := ot.dat_inv
        obtain ⟨a, xs, ev, hh, rs⟩ := rq.tup_inv
        subst ev
        cases ej : atI ds i with
        | none => rw [ej] at eq'; cases eq'
        | some d =>
          rw [ej] at eq'
          cases eq'
          obtain ⟨v1, e1, r1⟩ := atI_rqA rs ej
          refine ⟨v1, [], A.next (g := fun _ => q0.u) (.dat r1) (fun z m => nomatch m) ?_, fun Q q => go _ (gk _ (.inr (.inl ⟨a, xs, i, v1, rfl, rfl, R.co.sub.t hh, e1, q⟩)))⟩
          rw [eu]
          exact Rep.dat rq
      · cases eq'
end
end DL

namespace DL
open PySem PySem.Spec PyProof.Rows L2
section
variable {K : PySem.W.Frag} {B : Bs} {σ : L2.St} {G H G1 H1 G2 H2 : Hp} {ρ ρ1 : Rho} {fp fp1 : Nat → List Addr}
/-- what a place holds is changed -/
theorem Nxt.repl (R : Rp K B G H σ ρ fp) (n : Nxt K B σ G H fp G1 H1 ρ1 fp1) {q : PV} {v' : V} {f1 : List Addr} (A : At K G1 H1 σ ρ1 fp1 q v' f1) {t' : SV} {g : List Addr}
    (s : Sub G1 G2) (sub : Sub G2 H2) (k : ∀ a, a ∉ f1 → ∀ o, H1 a = some o → H2 a = some o) (hid : ∀ a, a ∉ f1 → ∀ o, H1 a = some o → G1 a = none → G2 a = none) (ot : OT K G2 H2 v' t' g) (new : ∀ a ∈ g, a ∈ f1 ∨ ¬ In fp1 a ∧ (H a = none ∨ In fp a)) :
    ∃ f2, Nxt K B σ G H fp G2 H2 (ρ1.set q.i (some (q.put t'))) (fun j => if j = q.i then f2 else fp1 j) ∧ ∀ a ∈ f2, (a ∈ fp1 q.i ∧ a ∉ f1) ∨ a ∈ g := by
  obtain ⟨t, v, e1, e2, o1, rp⟩ := A.ex
  have il : q.i < ρ1.length := (List.getElem?_eq_some_iff.mp e1).1
  obtain ⟨f2, o2, i2⟩ := rp G2 H2 t' g s (fun a m m' => ⟨k a m', by
    obtain ⟨⟨o, e⟩, g0⟩ := n.rp.co.here ⟨q.i, m⟩
    exact hid a m' o e g0⟩) ot fun a m => (new a m).imp id fun z m' => z.1 ⟨q.i, m'⟩
  have f1in : ∀ a ∈ f1, In fp1 a := fun a m => ⟨q.i, A.sub a m⟩
  have st2 : Stp (In fp1) G1 H1 G2 H2 := ⟨s, fun a o h e => k a (fun m => h (f1in a m)) o e, fun a o h e g0 => hid a (fun m => h (f1in a m)) o e g0⟩
  have hin : ∀ x, In (fun j => if j = q.i then f2 else fp1 j) x → In fp1 x ∨ (H x = none ∨ In fp x) := fun x ⟨j, m⟩ => by
    by_cases e : j = q.i
    · simp only [if_pos e] at m
      rcases i2 x m with ⟨z, _⟩ | z
      · exact .inl ⟨q.i, z⟩
      · rcases new x z with w | w
        · exact .inl (f1in x w)
        · exact .inr w.2
    · simp only [if_neg e] at m
      exact .inl ⟨j, m⟩
  refine ⟨f2, ⟨⟨⟨by rw [List.length_set]; exact n.rp.co.len, sub, fun j t h => ?_, fun j h => ?_, fun j l x m1 m2 => ?_⟩, n.rp.stp.trans st2 n.rp.own, fun x h => ?_, fun j m => ?_, n.rp.lo.trans s⟩, n.st.trans st2 fun x h => n.inn x h, fun x h => ?_⟩, i2⟩
  · by_cases e : j = q.i
    · subst e
      rw [List.getElem?_set_self il] at h
      injection h with h; injection h with h
      subst h
      refine ⟨v, e2, ?_⟩
      simp only [if_true]
      exact o2
    · rw [List.getElem?_set_ne (Ne.symm e)] at h
      obtain ⟨w, w1, ow⟩ := n.rp.co.slot j t h
      refine ⟨w, w1, ?_⟩
      simp only [if_neg e]
      have out : ∀ x ∈ fp1 j, x ∉ f1 := fun x m m' => e (n.rp.co.dis j q.i x m (A.sub x m'))
      exact ow.mono s (fun x m u e => k x (out x m) u e) fun x m => by
        obtain ⟨⟨o, e⟩, g0⟩ := ow.here x m
        exact hid x (out x m) o e g0
  · by_cases e : j = q.i
    · subst e; exact absurd (List.getElem?_set_self il) (h _)
    · simp only [if_neg e]
      exact n.rp.co.nil j fun t z => h t (by rw [List.getElem?_set_ne (Ne.symm e)]; exact z)
  · have key : ∀ {l : Nat}, l ≠ q.i → x ∈ f2 → x ∈ fp1 l → False := fun {l} e2 m1 m2 => by
      rcases i2 x m1 with ⟨z, _⟩ | z
      · exact e2 (n.rp.co.dis l q.i x m2 z)
      · rcases new x z with w | w
        · exact e2 (n.rp.co.dis l q.i x m2 (A.sub x w))
        · exact w.1 ⟨l, m2⟩
    by_cases e1 : j = q.i
    · by_cases e2 : l = q.i
      · rw [e1, e2]
      · simp only [if_pos e1] at m1
        simp only [if_neg e2] at m2
        exact (key e2 m1 m2).elim
    · by_cases e2 : l = q.i
      · simp only [if_neg e1] at m1
        simp only [if_pos e2] at m2
        exact (key e1 m2 m1).elim
      · simp only [if_neg e1] at m1
        simp only [if_neg e2] at m2
        exact n.rp.co.dis j l x m1 m2
  · rcases hin x h with z | z
    · exact n.rp.own x z
    · exact R.base (fr := [x]) (fun y m => by have : y = x := by simpa using m
                                              subst this; exact z) x List.mem_cons_self
  · obtain ⟨w, t, e1, e2, e3⟩ := n.rp.io j m
    by_cases e : j = q.i
    · subst e; exact ⟨w, _, e1, e2, List.getElem?_set_self il⟩
    · exact ⟨w, t, e1, e2, by rw [List.getElem?_set_ne (Ne.symm e)]; exact e3⟩
  · rcases hin x h with z | z
    · exact n.inn x z
    · exact z.symm
theorem At.mono {q : PV} {v' : V} {f1 : List Addr} (A : At K G H σ ρ fp q v' f1) (s : Sub G G1) (k : ∀ a ∈ fp q.i, ∀ o, H a = some o → H1 a = some o) (z : ∀ a ∈ fp q.i, G1 a = none) : At K G1 H1 σ ρ fp q v' f1 := by
  obtain ⟨t, v, e1, e2, o1, rp⟩ := A.ex
  exact ⟨⟨t, v, e1, e2, o1.mono s k z, fun G' H' t' f' s' k' o n => rp G' H' t' f' (s.trans s') (fun a m m' => ⟨fun u e => (k' a m m').1 u (k a m u e), (k' a m m').2⟩) o n⟩, A.ot.mono s (fun a m u e => k a (A.sub a m) u e) fun a m => z a (A.sub a m), A.sub⟩
theorem OTf.put {fr : List Addr} {v : V} {t : SV} {x : Str} (o : OT K G H v t fr) : ∀ {fs : List (Str × SV)} {vs : List (Str × V)} {f : List Addr}, OTf K G H vs fs f → (∀ a ∈ f, a ∉ fr) → ∃ f', OTf K G H (putF x v vs) (putT x t fs) f' ∧ ∀ a ∈ f', a ∈ f ∨ a ∈ fr
  | [], _, _, h, _ => by
    cases h
    exact ⟨fr ++ [], .cons o .nil (fun _ _ z => nomatch z), fun a m => .inr (by simpa using m)⟩
  | (g, y) :: r, _, _, h, d => by
    cases h with
    | cons a b dd =>
      rename_i w ws f1 f2
      rw [putF, putT]
      by_cases e : g = x
      · rw [if_pos e, if_pos e]
        refine ⟨fr ++ f2, .cons o b fun a m m' => d a (List.mem_append_right _ m') m, fun a m => (List.mem_append.mp m).elim .inr fun z => .inl (List.mem_append_right _ z)⟩
      · rw [if_neg e, if_neg e]
        obtain ⟨f', p, i⟩ := OTf.put o b fun a m m' => d a (List.mem_append_right _ m) m'
        refine ⟨f1 ++ f', .cons a p fun z m m' => ?_, fun z m => ?_⟩
        · rcases i z m' with w | w
          · exact dd z m w
          · exact d z (List.mem_append_left _ m) w
        · rcases List.mem_append.mp m with m | m
          · exact .inl (List.mem_append_left _ m)
          · exact (i z m).imp (List.mem_append_right _) id
theorem OTf.length : ∀ {fs : List (Str × SV)} {vs : List (Str × V)} {f : List Addr}, OTf K G H vs fs f → vs.length = fs.length
  | _, _, _, .nil => rfl
  | _, _, _, .cons _ b _ => congrArg (· + 1) (OTf.length b)
end
/-! ### reads at a place -/
@[simp] def fPd (p : FQ) : FV := fun ρ Q => onQ (p ρ) fun q => onDat q.u fun d => Q d ρ
@[simp] def fPs (p : FQ) : FV := fun ρ Q => onQ (p ρ) fun q => Q q.u.data (ρ.set q.i (some (q.put (.dat q.u.data))))
section
variable {X : Cx} {io : List Nat} {e o : Expr} {pos apos cpos : Pos} {p : FQ}
theorem v_pd (h : PDq X e p) : PDv X io e (fPd p) := by
  obtain ⟨te, h1, h2⟩ := h
  refine ⟨te, h1, fun B G H σ ρ fp Qd Q hB R hf k => ?_⟩
  obtain ⟨q, e1, hf⟩ := onQ_of hf
  obtain ⟨d, e2, qq⟩ := onDat_of hf
  obtain ⟨v', f1, A, go⟩ := h2 B G H σ ρ fp R q e1
  have ot := A.ot
  rw [e2] at ot
  exact go Q (k d ρ v' G H fp (Nxt.refl R) ot.dat_inv.1 qq)
/-- what stands there is data from now on -/
theorem v_ps (h : PDq X e p) : PDv X io e (fPs p) := by
  obtain ⟨te, h1, h2⟩ := h
  refine ⟨te, h1, fun B G H σ ρ fp Qd Q hB R hf k => ?_⟩
  obtain ⟨q, e1, qq⟩ := onQ_of hf
  obtain ⟨v', f1, A, go⟩ := h2 B G H σ ρ fp R q e1
  have g0 : ∀ a ∈ f1, G a = none := fun a m => (A.ot.here a m).2
  have rq := A.ot.sealed (sealH_sub (H := H) g0) fun a m o e => by rw [sealH_in m]; exact e
  have sub : Sub (sealH G H f1) H := fun a o e => by
    by_cases m : a ∈ f1
    · rw [sealH_in m] at e; exact e
    · rw [sealH_out m] at e; exact R.co.sub a o e
  obtain ⟨f2, n, _⟩ := Nxt.repl R (Nxt.refl R) A (G2 := sealH G H f1) (H2 := H) (t' := .dat q.u.data) (g := []) (sealH_sub g0) sub (fun a _ o e => e) (fun a m o e g1 => by rw [sealH_out m]; exact g1) (.dat rq) (fun _ m => nomatch m)
  exact go Q (k _ _ v' _ H _ n rq qq)
/-! ### arguments that change nothing that is held -/
abbrev FC := Rho → (SV → Prop) → Prop
def DC (K : PySem.W.Frag) (io : List Nat) (te : TE) (fc : FC) : Prop := ∀ (B : Bs) G H σ ρ fp (Qd : SV → Prop) (Q : VK), B.io = io → Rp K B G H σ ρ fp → fc ρ Qd →
  (∀ r v G' H' fr, Nxt K B σ G H fp G' H' ρ fp → (∀ a o, H a = some o → H' a = some o) → OT K G' H' v r fr → (∀ a ∈ fr, ¬ In fp a) → (∀ a ∈ fr, H a = none) → Qd r → Q v H') → te σ H Q
def PDc (X : Cx) (io : List Nat) (e : Expr) (fc : FC) : Prop := ∃ te, PE X e te ∧ DC X.K io te fc
@[simp] def cFrz (fe : FE) : FC := fun ρ Q => fe (frzR ρ) fun r ρ' => ρ' = frzR ρ ∧ flatT r = true ∧ Q r
@[simp] def cPd (p : FQ) : FC := fun ρ Q => onQ (p ρ) fun q => onDat q.u fun d => Q (.dat d)
theorem c_frz {fe : FE} (h : PDe X io e fe) : PDc X io e (cFrz fe) := by
  obtain ⟨te, h1, h2⟩ := h
  exact ⟨te, h1, fun B G H σ ρ fp Qd Q hB R hf k => frz_core h2 B G H σ ρ fp Qd Q hB R hf fun r v G' H' fr n kp ot o1 o2 _ q => k r v G' H' fr n kp ot o1 o2 q⟩
theorem c_pd (h : PDq X e p) : PDc X io e (cPd p) := by
  obtain ⟨te, h1, h2⟩ := h
  refine ⟨te, h1, fun B G H σ ρ fp Qd Q hB R hf k => ?_⟩
  obtain ⟨q, e1, hf⟩ := onQ_of hf
  obtain ⟨d, e2, qq⟩ := onDat_of hf
  obtain ⟨v', f1, A, go⟩ := h2 B G H σ ρ fp R q e1
  have ot := A.ot
  rw [e2] at ot
  exact go Q (k _ v' G H [] (Nxt.refl R) (fun _ _ e => e) (.dat ot.dat_inv.1) (fun _ m => nomatch m) (fun _ m => nomatch m) qq)
/-! ### changes at a place -/
@[simp] def fPapp (p : FQ) (fc : FC) : FE := fun ρ Q => onQ (p ρ) fun q => onOwn q.u fun ts => ts.length < sizeLine ∧ fc ρ fun r => Q (.dat .non) (ρ.set q.i (some (q.put (.own (ts ++ [r])))))
theorem e_papp {fc : FC} (ho : PDq X o p) (h : PDc X io e fc)
    (hbase : attributeBase o "append" X.env (eval o X.env) = eval o X.env := by rfl)
    (hfew : ((backTo cpos (starEach [e] X.env)).all (fun x => !x.1) && (backToKw cpos (keywordEach [] X.env)).all (fun x => x.1.isSome) && decide ([e].length + ([] : List Keyword).length + (if ([] : List Keyword).isEmpty then 0 else 1) < 30)) = true := by rfl)
    (hline : (apos.endLine == cpos.line) = true := by rfl) (hs : starEach [e] X.env = (false, eval e X.env) :: starEach [] X.env := by rfl) (hplain : (backTo cpos (starEach [] X.env)).any (·.1) = false := by rfl) :
    PDe X io (.Call (.Attribute o "append" apos) [e] [] cpos) (fPapp p fc) := by
  obtain ⟨to, h1, h2⟩ := ho
  obtain ⟨ta, a1, a2⟩ := h
  refine ⟨_, pe_bm PySem.F.plainAttrs_list PySem.F.slot_list_append PySem.F.type_list_append mt_append h1 (pa_cons a1 pa_nil hs) hbase hfew hline hs hplain, fun B G H σ ρ fp Qd Q hB R hf k => ?_⟩
  obtain ⟨q, e1, hf⟩ := onQ_of hf
  obtain ⟨ts, e2, hz, hc⟩ := onOwn_of hf
  obtain ⟨v', f1, A, go⟩ := h2 B G H σ ρ fp R q e1
  have ot := A.ot
  rw [e2] at ot
  obtain ⟨l, vs, f, ev, ef, h0, g0, os, nl⟩ := ot.own_inv
  subst ev ef
  refine go _ ⟨.inl ⟨rfl, _, .inl (.inl h0)⟩, ?_⟩
  refine a2 B G H σ ρ fp _ _ hB R hc fun r v G1 H1 fr n1 kp or o1 o2 qq => ?_
  have A1 := A.mono (G1 := G1) (H1 := H1) n1.st.ex (fun a m u e => kp a u e) (fun a m => (n1.rp.co.here ⟨q.i, m⟩).2)
  have ot1 := A1.ot
  rw [e2] at ot1
  obtain ⟨l', ws, f', ev, ef, h1', g1, os1, nl1⟩ := ot1.own_inv
  have el : l = l' := by injection ev
  subst el
  have efs : f = f' := by injection ef
  subst efs
  have lin : In fp l := ⟨q.i, A.sub l List.mem_cons_self⟩
  have nlr : l ∉ fr := fun m => o1 l m lin
  have dj : ∀ x ∈ f, x ∉ fr := fun x m m' => o1 x m' ⟨q.i, A.sub x (List.mem_cons_of_mem _ m)⟩
  have nap : l ∉ f ++ fr := fun m => (List.mem_append.mp m).elim nl nlr
  have os2 := (os1.snoc or dj).mono (H' := upd H1 l (.lst (ws ++ [v]))) (Sub.refl _) (fun x m u e => by rw [upd_ne (fun z : x = l => nap (z ▸ m))]; exact e) fun x m => ((os1.snoc or dj).here x m).2
  obtain ⟨f2, n2, _⟩ := Nxt.repl R n1 A1 (G2 := G1) (H2 := upd H1 l (.lst (ws ++ [v]))) (t' := .own (ts ++ [r])) (Sub.refl _) (fun x u e => by
      rw [upd_ne (fun z : x = l => by rw [z, g1] at e; cases e)]; exact n1.rp.co.sub x u e)
    (fun x h u e => by rw [upd_ne (fun z : x = l => h (z ▸ List.mem_cons_self))]; exact e) (fun x _ u _ g => g) (.own upd_same g1 os2 nap) fun x m => by
      rcases List.mem_cons.mp m with z | m
      · exact .inl (z ▸ List.mem_cons_self)
      · rcases List.mem_append.mp m with m | m
        · exact .inl (List.mem_cons_of_mem _ m)
        · exact .inr ⟨o1 x m, .inl (o2 x m)⟩
  exact ⟨l, ws, v, rfl, rfl, h1', by rw [os1.length]; exact hz, k _ _ _ _ _ _ [] n2 (.dat .non) (fun _ z => nomatch z) (fun _ z => nomatch z) qq⟩
@[simp] def fPpop (p : FQ) : FE := fun ρ Q => onQ (p ρ) fun q => onOwn q.u fun ts => ∃ t, ts[ts.length - 1]? = some t ∧ Q t (ρ.set q.i (some (q.put (.own ts.dropLast))))
theorem e_ppop (ho : PDq X o p) (hbase : attributeBase o "pop" X.env (eval o X.env) = eval o X.env := by rfl) (hline : (apos.endLine == cpos.line) = true := by rfl) : PDe X io (.Call (.Attribute o "pop" apos) [] [] cpos) (fPpop p) := by
  obtain ⟨to, h1, h2⟩ := ho
  refine ⟨_, pe_bm0 PySem.F.plainAttrs_list PySem.F.slot_list_pop PySem.F.type_list_pop mt_pop h1 hbase hline, fun B G H σ ρ fp Qd Q hB R hf k => ?_⟩
  obtain ⟨q, e1, hf⟩ := onQ_of hf
  obtain ⟨ts, e2, t, el, qq⟩ := onOwn_of hf
  obtain ⟨v', f1, A, go⟩ := h2 B G H σ ρ fp R q e1
  have ot := A.ot
  rw [e2] at ot
  obtain ⟨l, vs, f, ev, ef, h0, g0, os, nl⟩ := ot.own_inv
  subst ev ef
  have sp := last_split el
  rw [sp] at os
  obtain ⟨ws, w, f1, f2, ev, os1, ow, d12, i1, i2⟩ := os.unsnoc
  subst ev
  refine go _ ⟨.inl ⟨rfl, _, .inl (.inl h0)⟩, l, _, w, rfl, rfl, h0, by simp, ?_⟩
  have e3 : (ws ++ [w]).dropLast = ws := by simp
  rw [e3]
  have nl1 : l ∉ f1 := fun m => nl (i1 l m)
  have nl2 : l ∉ f2 := fun m => nl (i2 l m)
  have up1 : OTs X.K G (upd H l (.lst ws)) ws ts.dropLast f1 := os1.mono (Sub.refl _) (fun x m u e => by rw [upd_ne (fun z : x = l => nl1 (z ▸ m))]; exact e) fun x m => (os1.here x m).2
  obtain ⟨f3, n2, i3⟩ := Nxt.repl R (Nxt.refl R) A (G2 := G) (H2 := upd H l (.lst ws)) (t' := .own ts.dropLast) (Sub.refl _) (fun x u e => by
      rw [upd_ne (fun z : x = l => by rw [z, g0] at e; cases e)]; exact R.co.sub x u e)
    (fun x h u e => by rw [upd_ne (fun z : x = l => h (z ▸ List.mem_cons_self))]; exact e) (fun x _ u _ g => g) (.own upd_same g0 up1 nl1) fun x m => by
      rcases List.mem_cons.mp m with z | m
      · exact .inl (z ▸ List.mem_cons_self)
      · exact .inl (List.mem_cons_of_mem _ (i1 x m))
  refine k t _ w _ _ _ f2 n2 (ow.mono (Sub.refl _) (fun x m u e => by rw [upd_ne (fun z : x = l => nl2 (z ▸ m))]; exact e) fun x m => (ow.here x m).2) (fun x m ⟨j, z⟩ => ?_) (fun x m => .inr ⟨q.i, A.sub x (List.mem_cons_of_mem _ (i2 x m))⟩) qq
  have xin : x ∈ fp q.i := A.sub x (List.mem_cons_of_mem _ (i2 x m))
  by_cases e : j = q.i
  · simp only [if_pos e] at z
    rcases i3 x z with ⟨_, w2⟩ | w2
    · exact w2 (List.mem_cons_of_mem _ (i2 x m))
    · rcases List.mem_cons.mp w2 with y | y
      · exact nl2 (y ▸ m)
      · exact d12 x y m
  · simp only [if_neg e] at z
    exact e (R.co.dis j q.i x z xin)
/-- o.x = e -/
@[simp] def fPfld (C : Addr) (x : Str) (p : FQ) (fe : FE) : FS := fun D ρ => fe ρ fun r ρ1 => onQ (p ρ1) fun q => onOb C q.u fun fs => fs.length < 1000 ∧ D.nx (ρ1.set q.i (some (q.put (.ob C (putT x r fs)))))
theorem s_pfld {C : Addr} {x : Str} {fe : FE} {pos2 : Pos} (hc : Cls X.K C) (hn : NoAttr X.K C x) (ho : PDq X o p) (hv : PDe X io e fe) (hs : swapsWith e (some (.Attribute o x pos2)) pos.line X.env = pure false := by rfl) : PDs X io (.Assign [.Attribute o x pos2] e pos) (fPfld C x p fe) := by
  obtain ⟨to, h1, h2⟩ := ho
  obtain ⟨ta, a1, a2⟩ := hv
  refine ⟨_, ps_fld h1 a1 hs, fun B G H σ ρ fp Dd Dh hB R hf sm => ?_⟩
  refine a2 B G H σ ρ fp _ _ hB R hf fun r ρ1 v G1 H1 fp1 fr n1 or o1 o2 hf => ?_
  obtain ⟨q, e1, hf⟩ := onQ_of hf
  obtain ⟨fs, e2, hl, qq⟩ := onOb_of hf
  obtain ⟨v', f1, A, go⟩ := h2 B G1 H1 σ ρ1 fp1 n1.rp q e1
  have ot := A.ot
  rw [e2] at ot
  obtain ⟨a, dx, vs, f, ev, ef, a1', a2', g1, g2, os, ne, na, nd⟩ := ot.ob_inv
  subst ev ef
  have ain : In fp1 a := ⟨q.i, A.sub a List.mem_cons_self⟩
  have din : In fp1 dx := ⟨q.i, A.sub dx (List.mem_cons_of_mem _ List.mem_cons_self)⟩
  have dj : ∀ z ∈ f, z ∉ fr := fun z m m' => o1 z m' ⟨q.i, A.sub z (List.mem_cons_of_mem _ (List.mem_cons_of_mem _ m))⟩
  obtain ⟨f3, p3, i3⟩ := OTf.put (x := x) or os dj
  have na3 : a ∉ f3 := fun m => (i3 a m).elim na fun z => o1 a z ain
  have nd3 : dx ∉ f3 := fun m => (i3 dx m).elim nd fun z => o1 dx z din
  have up3 : OTf X.K G1 (upd H1 a (.ins C dx (putF x v vs))) (putF x v vs) (putT x r fs) f3 := p3.mono (Sub.refl _) (fun z m u e => by rw [upd_ne (fun w : z = a => na3 (w ▸ m))]; exact e) fun z m => (p3.here z m).2
  refine go _ ⟨a, C, dx, vs, rfl, a1', hc, hn, by rw [os.length]; exact hl, ?_⟩
  obtain ⟨f4, n4, _⟩ := Nxt.repl R n1 A (G2 := G1) (H2 := upd H1 a (.ins C dx (putF x v vs))) (t' := .ob C (putT x r fs)) (Sub.refl _) (fun z u e => by
      rw [upd_ne (fun w : z = a => by rw [w, g1] at e; cases e)]; exact n1.rp.co.sub z u e)
    (fun z h u e => by rw [upd_ne (fun w : z = a => h (w ▸ List.mem_cons_self))]; exact e) (fun z _ u _ g => g)
    (.ob upd_same (by rw [upd_ne (Ne.symm ne)]; exact a2') g1 g2 up3 ne na3 nd3) fun z m => by
      rcases List.mem_cons.mp m with w | m
      · exact .inl (w ▸ List.mem_cons_self)
      · rcases List.mem_cons.mp m with w | m
        · exact .inl (w ▸ List.mem_cons_of_mem _ List.mem_cons_self)
        · rcases i3 z m with w | w
          · exact .inl (List.mem_cons_of_mem _ (List.mem_cons_of_mem _ w))
          · exact .inr ⟨o1 z w, o2 z w⟩
  exact sm.nx _ _ _ _ _ n4.rp qq
/-- tuple(e): of a list just made, its trees stay owned; data is as it was -/
@[simp] def fTupT (fe : FE) : FE := fun ρ Q => fe ρ fun t ρ1 => (∃ ts, t = .own ts ∧ Q (.tp ts) ρ1) ∨ ∃ ds, (t.data = .lst ds ∨ t.data = .tup ds) ∧ Q (.dat (.tup ds)) ρ1
theorem e_tupT {fe : FE} {p2 : Pos} (hm : X.mg "tuple" = none) (ha : PDe X io e fe) (hg : Gl X "tuple" := by rfl) (he : starEach [e] X.env = (false, eval e X.env) :: starEach [] X.env := by rfl) (hpl : (backTo pos (starEach [] X.env)).any (·.1) = false := by rfl) : PDe X io (.Call (.Name "tuple" p2) [e] [] pos) (fTupT fe) := by
  obtain ⟨ta, a1, a2⟩ := ha
  refine ⟨_, pe_callTy call_tuple_of hg hm (by decide +kernel) (pa_cons a1 pa_nil he) (by decide) (by decide) he hpl, fun B G H σ ρ fp Qd Q hB R hf k => ?_⟩
  refine a2 B G H σ ρ fp _ _ hB R hf fun t ρ1 v1 G1 H1 fp1 fr n1 ot t1 t2 q => ?_
  rcases q with ⟨ts, rfl, q⟩ | ⟨ds, e1, q⟩
  · obtain ⟨a, vs, f, ev, ef, h1, g1, os, na⟩ := ot.own_inv
    subst ev ef
    refine ⟨a, vs, rfl, .inl ⟨.inl (.inl h1), fun l hl => ?_⟩⟩
    have n3 := n1.trans (Nxt.stand n1.rp (o := .tup vs) hl)
    have gl : G1 l = none := by
      cases e : G1 l with
      | none => rfl
      | some u => have := n1.rp.co.sub _ _ e; rw [hl] at this; cases this
    have nf : ∀ x ∈ f, x ≠ l := fun x m z => by
      obtain ⟨⟨o, e⟩, _⟩ := os.here x m
      rw [z, hl] at e; cases e
    refine k _ _ _ _ _ _ f n3 (.tp (.inl (.inl upd_same)) (os.mono (fun x o e => by rw [upd_ne (ne_of_none e gl)]; exact e) (fun x m o e => by rw [upd_ne (nf x m)]; exact e) fun x m => by rw [upd_ne (nf x m)]; exact (os.here x m).2)) (fun x m => t1 x (List.mem_cons_of_mem _ m)) (fun x m => t2 x (List.mem_cons_of_mem _ m)) q
  · obtain ⟨n2, r⟩ := Nxt.sealed R n1 ot t1 t2
    rcases e1 with e1 | e1
    · rw [e1] at r
      obtain ⟨p, xs, ev, h, rs⟩ := r.lst_inv
      refine ⟨p, xs, by rw [ev], .inl ⟨.inl (n2.rp.co.sub.rd h), fun l hl => ?_⟩⟩
      have n3 := n2.trans (Nxt.stand n2.rp (o := .tup xs) hl)
      refine k _ _ _ _ _ _ [] n3 (.dat (.tup (.inl (.inl upd_same)) (rs.mono fun a o e => ?_))) (fun _ z => nomatch z) (fun _ z => nomatch z) q
      have ne : a ≠ l := fun z => by
        have := n2.rp.co.sub _ _ e
        rw [z, hl] at this; cases this
      rw [upd_ne ne]; exact e
    · rw [e1] at r
      obtain ⟨p, xs, ev, h, rs⟩ := r.tup_inv
      exact ⟨p, xs, by rw [ev], .inr ⟨n2.rp.co.sub.t h, k _ _ _ _ _ _ [] n2 (.dat (.tup h rs)) (fun _ z => nomatch z) (fun _ z => nomatch z) q⟩⟩
end
end DL

namespace DL
open PySem PySem.Spec PyProof.Rows L2
/-! ### instances that are called, methods, making with names -/
/-- values and names that stand in the order of the parameters -/
def BndI (K : PySem.W.Frag) (fd : FuncData) (ps ks : List Str) : Prop := ∀ (s : Shared) (us ws : List Value), K.In s.heap → ws.length = ks.length → us.length + ws.length = ps.length → BindsTo s fd ⟨us, ks.zip ws⟩ (ps.zip (us ++ ws))
/-- .. in any order behind self -/
def BndP (K : PySem.W.Frag) (fd : FuncData) (ps ks : List Str) (n : Nat) (ix : List Nat) : Prop := ∀ (s : Shared) (u : Value) (us ws : List Value), K.In s.heap → us.length = n → ws.length = ks.length → BindsTo s fd ⟨u :: us, ks.zip ws⟩ (ps.zip (u :: gP n ks.length ix us ws))
section
variable {M : Model} {A : Around} {E : Value → Shared → Prop} {s : Shared} {a : Addr} {pos : Pos} {Q : Value → Shared → Prop}
theorem call_inst {args : List (Bool × Sem Value)} {kws : List (Option Str × Sem Value)} (pl : (args.any (·.1) || kws.any (·.1.isNone)) = false)
    (go : wpAny M A (evalArgs (.ref a) true args kws) (fun z t => (∃ C ox od, PySem.W.InstAt t.heap a ox C od ∧ ox.data = .plain) ∧ wpAny M A (call (.ref a) ([] ++ z.pos) z.kw) Q E t) E s) : wpAny M A (callWith pos (.ref a) [] args kws) Q E s := by
  unfold callWith
  refine wpAny_bind (wpAny_holding (wpAny_mono go (fun z t ht => wpAny_bind (wpAny_standAt ?_)) fun _ _ y => y))
  obtain ⟨⟨C, ox, od, J, hp⟩, hc⟩ := ht
  have ka := PySem.W.kco_keeper (M := M) J hp
  simp only [pl]
  refine wpAny_bind (ka.here ?_)
  have rest : ∀ {p : Sem Value}, wpAny M A p Q E t → wpAny M A (p >>= fun r => holding [r] point >>= fun _ => pure r) Q E t := fun hp =>
    wpAny_bind (wpAny_mono hp (fun r u hr => wpAny_bind (wpAny_holding (wpAny_point (wpAny_pure hr)))) fun _ _ y => y)
  exact rest (wpAny_operateT hc)
end
section
variable {X : Cx} {CX : CXT} {k n : Nat} {C g f : Addr} {fd : FuncData} {ps ks : List Str} {sp : Sp} {E : XK} {x m : Str} {e o : Expr} {es : List Expr} {kws : List Keyword} {pos p pn apos : Pos} {ta tf : TE} {t tk : TA}
theorem run_inst {pins : List (Addr × Obj)} {σ : L2.St} {H : Hp} {s : Shared} {Q : VK} {a dx : Addr} {fs : List (Str × V)} {us ws : List Value} {vs zs : List V} (c : StX.CallO X.K C g) (F : FnG X.prog X.w X.K X.mg X.base CX k g fd ps sp) (hr : RoomG k X.A) (hb : BndI X.K fd ps ks) (hx : Passes CX X E)
    (I : Inv X pins σ H s) (ha : H a = some (.ins C dx fs)) (r : Vals vs us) (rz : Vals zs ws) (lz : zs.length = ks.length) (q : sp (.ref a :: (vs ++ zs)) H Q E) : wpAny (model X.prog X.w) X.A (call (.ref a) us (ks.zip ws)) (EP X pins σ Q) X.xe s := by
  obtain ⟨mA, O, _⟩ := ins_get I.hok ha
  obtain ⟨od, J, _⟩ := O.look
  have rs : Vals (V.ref a :: (vs ++ zs)) (Value.ref a :: (us ++ ws)) := .cons rfl (r.append rz)
  have ln := F.len _ _ _ _ q
  rw [rs.length] at ln
  have bd := hb s (.ref a :: us) ws I.kIn (by rw [← lz, rz.length]) (by simpa [Nat.add_right_comm] using ln)
  refine wpAny_call (PySem.W.kco_code I.kIn J rfl c.at_ c.fn c.fi (codeAny_mono (F.run X.A X.stack s H ⟨.ref a :: us, ks.zip ws⟩ (.ref a :: (us ++ ws)) (.ref a :: (vs ++ zs)) Q E hr I.env0 bd rs q) fun r s' hq => ?_))
  cases r with
  | error er => exact hx pins σ H s er s' I hq
  | ok fl =>
    cases fl with
    | ret u => exact I.after hq
    | next => exact hq.elim
    | brk => exact hq.elim
    | cont => exact hq.elim
def tInst (C : Addr) (n : Nat) (sp : Sp) (E : XK) (tf : TE) (t : TA) : TE := fun σ H Q => tf σ H fun y H1 => ∃ a, y = .ref a ∧ t σ H1 fun vs H2 => vs.length = n ∧ (∃ dx fs, H2 a = some (.ins C dx fs)) ∧ sp (.ref a :: vs) H2 Q E
theorem ins_at {pins : List (Addr × Obj)} {σ : L2.St} {H : Hp} {s : Shared} {a dx : Addr} {fs : List (Str × V)} (I : Inv X pins σ H s) (h : H a = some (.ins C dx fs)) : ∃ D ox od, PySem.W.InstAt s.heap a ox D od ∧ ox.data = .plain := by
  obtain ⟨mA, O, _⟩ := ins_get I.hok h
  obtain ⟨od, J, _⟩ := O.look
  exact ⟨_, _, _, J, rfl⟩
/-- x(e, ..), x a name that holds an instance -/
theorem pe_instP (hf : PE X (.Name x pn) tf) (c : StX.CallO X.K C g) (F : FnG X.prog X.w X.K X.mg X.base CX k g fd ps sp) (hr : RoomG k X.A) (hb : BndI X.K fd ps []) (hx : Passes CX X E) (ha : PA X (e :: es) t)
    (he : starEach (e :: es) X.env = (false, eval e X.env) :: starEach es X.env) (hpl : (backTo pos (starEach es X.env)).any (·.1) = false) : PE X (.Call (.Name x pn) (e :: es) [] pos) (tInst C n sp E tf t) := by
  refine ⟨fun pins s σ H Q I h => wpAny_Call_Name_kw (thn (hf.run pins s σ H _ I h) fun u s1 ⟨y, H1, I1, ry, a, ey, q⟩ => ?_)⟩
  subst ey
  cases ry
  have hA := ha.run pos pins s1 σ H1 _ I1 q
  rw [he] at hA ⊢
  refine call_inst (by show ((false || (backTo pos (starEach es X.env)).any (·.1)) || false) = false; rw [hpl] <;> rfl) (PySem.Calls.evalArgs_plain (thn hA fun us s2 ⟨vs, H2, I2, r, hl, ⟨dx, fs, hi⟩, q2⟩ => ?_))
  exact ⟨ins_at I2 hi, run_inst (ks := []) (ws := []) (zs := []) c F hr hb hx I2 hi r .nil rfl (by rw [List.append_nil]; exact q2)⟩
/-- x(k = e) -/
theorem pe_instK (hf : PE X (.Name x pn) tf) (c : StX.CallO X.K C g) (F : FnG X.prog X.w X.K X.mg X.base CX k g fd ps sp) (hr : RoomG k X.A) (hb : BndI X.K fd ps ks) (hx : Passes CX X E) (hkw : PK X kws tk)
    (hall : (backToKw pos (keywordEach kws X.env)).all (·.1.isSome) = true) (hks : (backToKw pos (keywordEach kws X.env)).filterMap (·.1) = ks)
    (hpl : ((backTo pos (starEach [] X.env)).any (·.1) || (backToKw pos (keywordEach kws X.env)).any (·.1.isNone)) = false) : PE X (.Call (.Name x pn) [] kws pos) (tInst C ks.length sp E tf tk) := by
  refine ⟨fun pins s σ H Q I h => wpAny_Call_Name_kw (thn (hf.run pins s σ H _ I h) fun u s1 ⟨y, H1, I1, ry, a, ey, q⟩ => ?_)⟩
  subst ey
  cases ry
  refine call_inst hpl (evalArgs_kw2_nil hall (thn (hkw.run pos pins s1 σ H1 _ I1 q) fun ws s2 ⟨zs, H2, I2, rz, hl, ⟨dx, fs, hi⟩, q2⟩ => ?_))
  rw [hks]
  exact ⟨ins_at I2 hi, run_inst (us := []) (vs := []) c F hr hb hx I2 hi .nil rz hl q2⟩
def tMethE (C : Addr) (m : Str) (sp : Sp) (E : XK) (ta : TE) (t : TA) : TE := fun σ H Q => ta σ H fun y H1 => ∃ a dx fs, y = .ref a ∧ H1 a = some (.ins C dx fs) ∧ fs.lookup m = none ∧ t σ H1 fun vs H2 => sp (.ref a :: vs) H2 Q E
theorem pe_methG {pl : Sem Bool} (he : PE X o ta) (c : Cls X.K C) (hm : Meth X.K C m f) (F : FnG X.prog X.w X.K X.mg X.base CX k f fd ps sp) (hr : RoomG k X.A) (hb : Binds X.K fd ps []) (hx : Passes CX X E) (ha : PA X (e :: es) t)
    (hst : starEach (e :: es) X.env = (false, eval e X.env) :: starEach es X.env) (hpl : (backTo pos (starEach es X.env)).any (·.1) = false)
    (ht : eval (.Call (.Attribute o m apos) (e :: es) [] pos) X.env = (do
      let ov ← eval o X.env
      standAt apos.atName
      let (f, first) ← holding [ov] (getMethod ov m pl)
      callWith pos f first (backTo pos (starEach (e :: es) X.env)) (backToKw pos (keywordEach [] X.env)))) : PE X (.Call (.Attribute o m apos) (e :: es) [] pos) (tMethE C m sp E ta t) := by
  refine ⟨fun pins s σ H Q I h => PySem.W.methodCall_KW (pl := pl) (thn (he.run pins s σ H _ I h) fun u s1 ⟨y, H1, I1, ry, a, dx, fs, ey, hi, hl, q⟩ => ?_) ht⟩
  subst ey
  cases ry
  refine getmeth_ok I1 hi c hm hl (PySem.W.callWith_K (first := [.ref a]) (h₀ := X.base) I.ok.mod.kin hm.kp (thn (ha.run pos pins s1 σ H1 _ I1 q) fun us s2 ⟨vs, H2, I2, r, q2⟩ => ⟨I2.kIn, ?_⟩) hst hpl)
  exact run_fnG (us := .ref a :: us) (vs := .ref a :: vs) F hr hb hx I2 (.cons rfl r) q2
theorem pe_methG0 {pl : Sem Bool} (he : PE X o ta) (c : Cls X.K C) (hm : Meth X.K C m f) (F : FnG X.prog X.w X.K X.mg X.base CX k f fd ps sp) (hr : RoomG k X.A) (hb : Binds X.K fd ps []) (hx : Passes CX X E)
    (ht : eval (.Call (.Attribute o m apos) [] [] pos) X.env = (do
      let ov ← eval o X.env
      standAt apos.atName
      let (f, first) ← holding [ov] (getMethod ov m pl)
      callWith pos f first (backTo pos (starEach [] X.env)) (backToKw pos (keywordEach [] X.env)))) : PE X (.Call (.Attribute o m apos) [] [] pos) (tMethE C m sp E ta tNil) := by
  refine ⟨fun pins s σ H Q I h => PySem.W.methodCall_KW (pl := pl) (thn (he.run pins s σ H _ I h) fun u s1 ⟨y, H1, I1, ry, a, dx, fs, ey, hi, hl, q⟩ => ?_) ht⟩
  subst ey
  cases ry
  exact getmeth_ok I1 hi c hm hl (PySem.W.callWith_K0 (first := [.ref a]) I1.kIn hm.kp (run_fnG (us := [.ref a]) (vs := [.ref a]) F hr hb hx I1 (.cons rfl .nil) q))
theorem run_makeP {pins : List (Addr × Obj)} {σ : L2.St} {H : Hp} {s : Shared} {Q : VK} {us ws : List Value} {vs zs : List V} {ix : List Nat} (M : Mk X.K C f) (F : FnG X.prog X.w X.K X.mg X.base CX k f fd ps sp) (hr : RoomG (k + 1) X.A) (hb : BndP X.K fd ps ks n ix)
    (hx : Passes CX X E) (I : Inv X pins σ H s) (r : Vals vs us) (rz : Vals zs ws) (l1 : vs.length = n) (l2 : zs.length = ks.length)
    (h : ∀ x dx, H x = none → H dx = none → dx ≠ x → sp (.ref x :: gP n ks.length ix vs zs) (upd (upd H dx (.own x)) x (.ins C dx [])) (fun v H2 => v = .non ∧ Q (.ref x) H2) E) :
    wpAny (model X.prog X.w) X.A (call (.ref C) us (ks.zip ws)) (EP X pins σ Q) X.xe s := by
  have q := h (s.heap.objs.size + 1) s.heap.objs.size (I.hok.fresh (Nat.le_succ _)) (I.hok.fresh (Nat.le_refl _)) (Nat.ne_of_lt (Nat.lt_succ_self _))
  have J := Inv.made (C := C) I
  have rs : Vals (V.ref (s.heap.objs.size + 1) :: gP n ks.length ix vs zs) (Value.ref (s.heap.objs.size + 1) :: gP n ks.length ix us ws) := .cons rfl (Vals.gP r rz)
  have bd := hb _ (Value.ref (s.heap.objs.size + 1)) us ws J.kIn (r.length.symm.trans l1) (rz.length.symm.trans l2)
  refine wpAny_call (make_map (f := f) I.kIn M.makes M.init (beq_iff_eq.mp M.fn) (codeAny_mono (F.run _ X.stack _ _ ⟨Value.ref (s.heap.objs.size + 1) :: us, ks.zip ws⟩ _ _ _ E (hr.make C us (ks.zip ws))
    (J.env0.make C us (ks.zip ws)) bd rs q) fun r s' hq => ?_))
  cases r with
  | error er => exact hx pins σ _ _ er s' J hq
  | ok fl =>
    cases fl with
    | next => exact hq.elim
    | brk => exact hq.elim
    | cont => exact hq.elim
    | ret u =>
      obtain ⟨v, H', I3, rv, ev, q3⟩ := J.after hq
      subst ev
      exact ⟨rv, ⟨V.ref (s.heap.objs.size + 1), H', I3, rfl, q3⟩⟩
def tMakeP (C : Addr) (n m : Nat) (ix : List Nat) (sp : Sp) (E : XK) (t tk : TA) : TE := fun σ H Q => t σ H fun vs H1 => tk σ H1 fun zs H2 => vs.length = n ∧ zs.length = m ∧ ∀ x dx, H2 x = none → H2 dx = none → dx ≠ x →
  sp (.ref x :: gP n m ix vs zs) (upd (upd H2 dx (.own x)) x (.ins C dx [])) (fun v H3 => v = .non ∧ Q (.ref x) H3) E
theorem pe_makeP0 {ix : List Nat} (M : Mk X.K C f) (F : FnG X.prog X.w X.K X.mg X.base CX k f fd ps sp) (hr : RoomG (k + 1) X.A) (hg : Gl X x) (hm : X.mg x = some (.ref C)) (hb : BndP X.K fd ps ks 0 ix) (hx : Passes CX X E)
    (hkw : PK X kws tk) (hall : (backToKw pos (keywordEach kws X.env)).all (·.1.isSome) = true) (hks : (backToKw pos (keywordEach kws X.env)).filterMap (·.1) = ks) (hdb : (x == ("__debug__" : Str)) = false)
    (hpl : ((backTo pos (starEach [] X.env)).any (·.1) || (backToKw pos (keywordEach kws X.env)).any (·.1.isNone)) = false) : PE X (.Call (.Name x p) [] kws pos) (tMakeP C 0 ks.length ix sp E tNil tk) := by
  refine ⟨fun pins s σ H Q I h => wpAny_Call_Name_kw (ld_glob I hg hm ?_ hdb)⟩
  refine PySem.W.callWith_KW0 (h₀ := X.base) I.ok.mod.kin M.kp hall (thn (hkw.run pos pins s σ H _ I h) ?_) hpl
  rintro ws s2 ⟨zs, H2, I2, rz, l1, l2, q2⟩
  refine ⟨I2.kIn, ?_⟩
  rw [hks]
  exact run_makeP (us := []) M F hr hb hx I2 .nil rz l1 l2 q2
end
end DL

namespace DL
open PySem PySem.Spec PyProof.Rows L2
/-! ### calls of instances and methods, by data -/
theorem call_core {K : PySem.W.Frag} {B : Bs} {σ : L2.St} {G H G1 H1 : Hp} {ρ ρ1 : Rho} {fp fp1 : Nat → List Addr} {F : Ctr} {avs : List AV} {as : List SV} {vs : List V} {fr : List Addr} {Qd : SV → Rho → Prop} {Q : VK} {E : XK}
    (R : Rp K B G H σ ρ fp) (n1 : Nxt K B σ G H fp G1 H1 ρ1 fp1) (ar : AVR K G1 H1 σ vs avs fr) (t1 : ∀ a ∈ fr, ¬ In fp1 a) (t2 : ∀ a ∈ fr, H a = none ∨ In fp a) (ha : resA ρ1 avs = some as) (nd : (refs avs).Nodup)
    (hF : F as fun r as' => Qd r (wb ρ1 avs as'))
    (k : ∀ r ρ' v G' H' fp' fr, Nxt K B σ G H fp G' H' ρ' fp' → OT K G' H' v r fr → (∀ a ∈ fr, ¬ In fp' a) → (∀ a ∈ fr, H a = none ∨ In fp a) → Qd r ρ' → Q v H') : spD K F vs H1 Q E := by
  obtain ⟨g, cg, hg, l1, l2, hr⟩ := args_co n1.rp.co ar t1 nd ha
  have hfr : ∀ a ∈ fr, In B.fp0 a ∨ B.H0 a = none := fun a m => R.base t2 a m
  refine ⟨G1, as, g, _, cg, hF, fun r as' v G' H' g' fr' c' st inn ot d1 d2 q => ?_⟩
  have hl : as'.length = as.length := by
    have e1 := c'.len
    have e2 := cg.len
    simp at e1 e2
    omega
  obtain ⟨fp2, R2, st2, in2, cl⟩ := back_co n1.rp t1 hfr nd ha hg l2 hr c' st inn hl
  have back : ∀ a, H1 a = none → H a = none ∨ In fp a := fun a z => by
    by_cases q : In fp a
    · exact .inr q
    · exact .inl (n1.st.fresh q z)
  have back1 : ∀ a, In fp1 a → H a = none ∨ In fp a := fun a z => (n1.inn a z).symm
  have old : ∀ a, In g a → In fp1 a ∨ a ∈ fr := fun a ⟨k, m⟩ => (hg k a m).elim (fun ⟨m, _⟩ => .inr m) fun ⟨i, _, m⟩ => .inl ⟨i, m⟩
  have gb : ∀ a, In g a → H a = none ∨ In fp a := fun a z => (old a z).elim (back1 a) (t2 a)
  refine k r _ v G' H' fp2 fr' ⟨R2, n1.st.trans st2 fun a z => z.elim (n1.inn a) fun z => (t2 a z).symm, fun a z => ?_⟩ ot (fun a m z => ?_) (fun a m => ?_) q
  · rcases in2 a z with z | z | z
    · exact (back1 a z).symm
    · exact (back a z).symm
    · exact (t2 a z).symm
  · rcases cl a z with z | ⟨z, nz⟩
    · exact d1 a m z
    · rcases d2 a m with y | y
      · obtain ⟨⟨o, e⟩, _⟩ := n1.rp.co.here z
        rw [y] at e; cases e
      · exact nz y
  · exact (d2 a m).elim (back a) (gb a)
theorem AVR.length {K : PySem.W.Frag} {G H : Hp} {σ : L2.St} : ∀ {vs : List V} {as : List AV} {fr : List Addr}, AVR K G H σ vs as fr → vs.length = as.length
  | _, _, _, .nil => rfl
  | _, _, _, .val _ b _ => congrArg (· + 1) b.length
  | _, _, _, .ref _ b => congrArg (· + 1) b.length
theorem Rp.obAt {K : PySem.W.Frag} {B : Bs} {σ : L2.St} {G H : Hp} {ρ : Rho} {fp : Nat → List Addr} (R : Rp K B G H σ ρ fp) {i : Nat} {C : Addr} {fs : List (Str × SV)} (h : ρ[i]? = some (some (.ob C fs))) : ∃ a dx vs f, σ[i]? = some (some (.ref a)) ∧ H a = some (.ins C dx vs) ∧ OTf K G H vs fs f := by
  obtain ⟨v, e1, ot⟩ := R.co.slot i _ h
  obtain ⟨a, dx, vs, f, ev, ef, h1, _, _, _, os, _⟩ := ot.ob_inv
  subst ev
  exact ⟨a, dx, vs, f, e1, h1, os⟩
theorem OTf.none {K : PySem.W.Frag} {G H : Hp} {x : Str} : ∀ {fs : List (Str × SV)} {vs : List (Str × V)} {f : List Addr}, OTf K G H vs fs f → fs.lookup x = none → vs.lookup x = none
  | [], _, _, h, _ => by cases h; rfl
  | (g, y) :: r, _, _, h, e => by
    cases h with
    | cons a b d =>
      rw [List.lookup_cons] at e ⊢
      cases q : x == g with
      | true => rw [q] at e; cases e
      | false =>
        rw [q] at e
        exact OTf.none b e
theorem RqF.none {K : PySem.W.Frag} {G : Hp} {x : Str} : ∀ {ds : List (Str × DD)} {vs : List (Str × V)}, RqF K G vs ds → ds.lookup x = none → vs.lookup x = none
  | [], _, h, _ => by cases h; rfl
  | (g, y) :: r, _, h, e => by
    cases h with
    | cons a b =>
      rw [List.lookup_cons] at e ⊢
      cases q : x == g with
      | true => rw [q] at e; cases e
      | false =>
        rw [q] at e
        exact RqF.none b e
/-- an instance may be called, and is worth F -/
def Hin_ (P : Program) (w : World) (K : PySem.W.Frag) (mg : Str → Option Value) (base : Heap) (C : Addr) (ps ks : List Str) (k : Nat) (F : Ctr) : Prop :=
  ∃ g fd, StX.CallO K C g ∧ BndI K fd ps ks ∧ FnG P w K mg base CX0 k g fd ps (spD K F)
/-- the class has the method -/
def Hme_ (P : Program) (w : World) (K : PySem.W.Frag) (mg : Str → Option Value) (base : Heap) (C : Addr) (m : Str) (ps : List Str) (k : Nat) (F : Ctr) : Prop :=
  ∃ g fd, Cls K C ∧ Meth K C m g ∧ Binds K fd ps [] ∧ FnG P w K mg base CX0 k g fd ps (spD K F)
/-- the class is made with names -/
def HmP_ (P : Program) (w : World) (K : PySem.W.Frag) (mg : Str → Option Value) (base : Heap) (C : Addr) (x : Str) (ps ks : List Str) (ix : List Nat) (k : Nat) (F : Ctr) : Prop :=
  ∃ f fd, mg x = some (.ref C) ∧ Mk K C f ∧ BndP K fd ps ks 0 ix ∧ FnG P w K mg base CX0 k f fd ps (spD K F)
@[simp] def fInst (C : Addr) (F : Ctr) (i : Nat) (fa : FAs) : FE := fun ρ Q => (∃ fs, ρ[i]? = some (some (.ob C fs))) ∧ fa ρ fun avs ρ1 => (∃ fs, ρ1[i]? = some (some (.ob C fs))) ∧ ∃ as, resA ρ1 (.ref i :: avs) = some as ∧ (refs (.ref i :: avs)).Nodup ∧ F as fun r as' => Q r (wb ρ1 (.ref i :: avs) as')
def PDkA (X : Cx) (io : List Nat) (kws : List Keyword) (fa : FAs) : Prop := ∃ ta, PK X kws ta ∧ DAs X.K io ta fa
section
variable {X : Cx} {io : List Nat} {C : Addr} {x m : Str} {ps ks : List Str} {k : Nat} {F : Ctr} {e o : Expr} {es : List Expr} {kws : List Keyword} {fa : FAs} {pos pn apos p : Pos} {nm : Option Str} {kpos : Pos}
theorem de_inst {K : PySem.W.Frag} {t : TA} {n : Nat} {E : XK} {i : Nat} (hn : ∀ ρ Q, fa ρ Q → fa ρ fun avs ρ1 => avs.length = n ∧ Q avs ρ1) (a2 : DAs K io t fa) : DE K io (tInst C n (spD K F) E (tVar i) t) (fInst C F i fa) := by
  intro B G H σ ρ fp Qd Q hB R hf kk
  obtain ⟨⟨fs, e0⟩, hf⟩ := hf
  obtain ⟨a, dx, vs0, f0, s0, h0, _⟩ := R.obAt e0
  refine ⟨.ref a, s0, a, rfl, ?_⟩
  refine a2 B G H σ ρ fp _ _ hB R (hn _ _ hf) fun avs ρ1 vs G1 H1 fp1 fr n1 ar t1 t2 ⟨ln, ⟨fs1, e1⟩, as, ha, nd, q⟩ => ?_
  obtain ⟨a', dx', vs1, f1, s1, h1, _⟩ := n1.rp.obAt e1
  have : a = a' := by rw [s0] at s1; injection s1 with z; injection z with z; injection z
  subst this
  exact ⟨by rw [ar.length, ln], ⟨dx', vs1, h1⟩, call_core R n1 (.ref s0 ar) t1 t2 ha nd q kk⟩
theorem len_val {fe : FE} {fr : FAs} {n : Nat} (h : ∀ ρ Q, fr ρ Q → fr ρ fun avs ρ1 => avs.length = n ∧ Q avs ρ1) (mono : ∀ ρ (Q Q' : SV → Rho → Prop), (∀ r ρ', Q r ρ' → Q' r ρ') → fe ρ Q → fe ρ Q') : ∀ ρ Q, aVal fe fr ρ Q → aVal fe fr ρ fun avs ρ1 => avs.length = n + 1 ∧ Q avs ρ1 := fun ρ Q q =>
  mono _ _ _ (fun r ρ' z => by
    have := h _ _ z
    simpa using this) q
theorem kA_nil : PDkA X io [] aNil := ⟨_, pk_nil, fun B G H σ ρ fp Qd Q hB R hf k => k _ _ _ _ _ _ [] (Nxt.refl R) .nil (fun _ z => nomatch z) (fun _ z => nomatch z) hf⟩
theorem kA_ref {te : TE} (i : Nat) (h : PE X e te) (ht : te = tVar i) : PDkA X io [⟨nm, e, kpos⟩] (aRef i aNil) := by
  subst ht
  refine ⟨_, pk_cons h pk_nil, fun B G H σ ρ fp Qd Q hB R hf k => ?_⟩
  obtain ⟨⟨t, e0⟩, q⟩ := hf
  obtain ⟨v, s0, _⟩ := R.co.slot i t e0
  exact ⟨v, s0, k _ _ _ _ _ _ [] (Nxt.refl R) (.ref s0 .nil) (fun _ z => nomatch z) (fun _ z => nomatch z) q⟩
/-- x(y), y a slot -/
theorem e_inst1 {i j : Nat} {te tj : TE} (h : Hin_ X.prog X.w X.K X.mg X.base C ps [] k F) (hr : RoomG k X.A) (hf : PE X (.Name x pn) te) (hte : te = tVar i) (hj : PE X e tj) (htj : tj = tVar j)
    (he : starEach [e] X.env = (false, eval e X.env) :: starEach [] X.env := by rfl) (hpl : (backTo pos (starEach [] X.env)).any (·.1) = false := by rfl) : PDe X io (.Call (.Name x pn) [e] [] pos) (fInst C F i (aRef j aNil)) := by
  subst hte
  obtain ⟨g, fd, c, hb, hF⟩ := h
  obtain ⟨t, a1, a2⟩ := a_ref (io := io) (fr := aNil) j hj htj a_nil he
  exact ⟨_, pe_instP (n := 1) hf c hF hr hb pass0 a1 he hpl, de_inst (n := 1) (fun ρ Q q => ⟨q.1, by simpa using q.2⟩) a2⟩
/-- x(k = y) -/
theorem e_instK1 {i j : Nat} {te tj : TE} {z : Str} (h : Hin_ X.prog X.w X.K X.mg X.base C ps [z] k F) (hr : RoomG k X.A) (hf : PE X (.Name x pn) te) (hte : te = tVar i) (hj : PE X e tj) (htj : tj = tVar j)
    (hall : (backToKw pos (keywordEach [⟨some z, e, kpos⟩] X.env)).all (·.1.isSome) = true := by rfl) (hks : (backToKw pos (keywordEach [⟨some z, e, kpos⟩] X.env)).filterMap (·.1) = [z] := by rfl)
    (hpl : ((backTo pos (starEach [] X.env)).any (·.1) || (backToKw pos (keywordEach [⟨some z, e, kpos⟩] X.env)).any (·.1.isNone)) = false := by rfl) : PDe X io (.Call (.Name x pn) [] [⟨some z, e, kpos⟩] pos) (fInst C F i (aRef j aNil)) := by
  subst hte
  obtain ⟨g, fd, c, hb, hF⟩ := h
  obtain ⟨t, a1, a2⟩ := kA_ref (io := io) (nm := some z) (kpos := kpos) j hj htj
  exact ⟨_, pe_instK hf c hF hr hb pass0 a1 hall hks hpl, de_inst (n := 1) (fun ρ Q q => ⟨q.1, by simpa using q.2⟩) a2⟩
/-- x.m(), x a slot that is changed -/
@[simp] def fMeth0 (C : Addr) (m : Str) (F : Ctr) (i : Nat) : FE := fun ρ Q => ∃ fs, ρ[i]? = some (some (.ob C fs)) ∧ fs.lookup m = none ∧ F [.ob C fs] fun r as' => Q r (wb ρ [.ref i] as')
theorem e_meth0 {i : Nat} {te : TE} {pl : Sem Bool} (h : Hme_ X.prog X.w X.K X.mg X.base C m ps k F) (hr : RoomG k X.A) (ho : PE X o te) (hte : te = tVar i)
    (ht : eval (.Call (.Attribute o m apos) [] [] pos) X.env = (do
      let ov ← eval o X.env
      standAt apos.atName
      let (f, first) ← holding [ov] (getMethod ov m pl)
      callWith pos f first (backTo pos (starEach [] X.env)) (backToKw pos (keywordEach [] X.env))) := by rfl) : PDe X io (.Call (.Attribute o m apos) [] [] pos) (fMeth0 C m F i) := by
  subst hte
  obtain ⟨g, fd, c, hm, hb, hF⟩ := h
  refine ⟨_, pe_methG0 ho c hm hF hr hb pass0 ht, fun B G H σ ρ fp Qd Q hB R hf kk => ?_⟩
  obtain ⟨fs, e0, hl, q⟩ := hf
  obtain ⟨a, dx, vs0, f0, s0, h0, os⟩ := R.obAt e0
  exact ⟨.ref a, s0, a, dx, vs0, rfl, h0, os.none hl, call_core (E := fun _ _ _ => False) R (Nxt.refl R) (.ref s0 .nil) (fun _ z => nomatch z) (fun _ z => nomatch z) (as := [.ob C fs]) (by simp [e0]) (by simp) q kk⟩
/-- o.m(e, ..), all data -/
@[simp] def fMethD (C : Addr) (m : Str) (F : Ctr) (fo : FO) (fd : FDs) : FE := fun ρ Q => fo ρ fun z ρ1 => ∃ ds, resT ρ1 z = some (.dat (.obj C ds)) ∧ ds.lookup m = none ∧ fd ρ1 fun es ρ2 => F (.dat (.obj C ds) :: es.map .dat) fun r _ => Q r ρ2
theorem de_methD {K : PySem.W.Frag} {fo : FO} {fd : FDs} {to : TE} {t : TA} {E : XK} (o2 : DO K io to fo) (a2 : DAd K io t fd) : DE K io (tMethE C m (spD K F) E to t) (fMethD C m F fo fd) := by
  intro B G H σ ρ fp Qd Q hB R hf kk
  refine o2 B G H σ ρ fp _ _ hB R hf fun z ρ1 v G1 H1 fp1 n1 o1 ⟨ds, e1, hl, hf⟩ => ?_
  obtain ⟨f, ot, _⟩ := o1.tree n1.rp e1
  have rq := ot.dat_inv.1
  obtain ⟨a, dx, fs, ev, ga, rf⟩ := rq.obj_inv
  subst ev
  refine ⟨a, dx, fs, rfl, n1.rp.co.sub _ _ ga, rf.none hl, ?_⟩
  refine a2 B G1 H1 σ ρ1 fp1 _ _ hB n1.rp hf fun es ρ2 vs G2 H2 fp2 n2 rs q => ?_
  refine spD_data (ds := .obj C ds :: es) n2.rp (.cons (rq.mono n2.st.ex) rs) q fun r as' v G' H' fr n3 ot2 s1 s2 q2 => ?_
  have n4 := n1.trans n2
  exact kk r ρ2 v G' H' fp2 fr (n4.trans n3) ot2 s1 (fun b m => by
    by_cases z : In fp b
    · exact .inr z
    · exact .inl (n4.st.fresh z (s2 b m))) q2
theorem e_methD0 {fo : FO} {pl : Sem Bool} (h : Hme_ X.prog X.w X.K X.mg X.base C m ps k F) (hr : RoomG k X.A) (ho : PDo X io o fo)
    (ht : eval (.Call (.Attribute o m apos) [] [] pos) X.env = (do
      let ov ← eval o X.env
      standAt apos.atName
      let (f, first) ← holding [ov] (getMethod ov m pl)
      callWith pos f first (backTo pos (starEach [] X.env)) (backToKw pos (keywordEach [] X.env))) := by rfl) : PDe X io (.Call (.Attribute o m apos) [] [] pos) (fMethD C m F fo kNil) := by
  obtain ⟨g, fd, c, hm, hb, hF⟩ := h
  obtain ⟨to, o1, o2⟩ := ho
  exact ⟨_, pe_methG0 (E := fun _ _ _ => False) o1 c hm hF hr hb pass0 ht, de_methD o2 da_nil⟩
theorem e_methD {fo : FO} {fd' : FDs} {pl : Sem Bool} (h : Hme_ X.prog X.w X.K X.mg X.base C m ps k F) (hr : RoomG k X.A) (ho : PDo X io o fo) (ha : PDpa X io (e :: es) fd')
    (hst : starEach (e :: es) X.env = (false, eval e X.env) :: starEach es X.env := by rfl) (hpl : (backTo pos (starEach es X.env)).any (·.1) = false := by rfl)
    (ht : eval (.Call (.Attribute o m apos) (e :: es) [] pos) X.env = (do
      let ov ← eval o X.env
      standAt apos.atName
      let (f, first) ← holding [ov] (getMethod ov m pl)
      callWith pos f first (backTo pos (starEach (e :: es) X.env)) (backToKw pos (keywordEach [] X.env))) := by rfl) : PDe X io (.Call (.Attribute o m apos) (e :: es) [] pos) (fMethD C m F fo fd') := by
  obtain ⟨g, fd, c, hm, hb, hF⟩ := h
  obtain ⟨to, o1, o2⟩ := ho
  obtain ⟨t, a1, a2⟩ := ha
  exact ⟨_, pe_methG (E := fun _ _ _ => False) o1 c hm hF hr hb pass0 a1 hst hpl ht, de_methD o2 a2⟩
end
/-! #### making with names -/
theorem make_core {K : PySem.W.Frag} {B : Bs} {σ : L2.St} {G H G1 H1 : Hp} {ρ ρ1 : Rho} {fp fp1 : Nat → List Addr} {F : Ctr} {C : Addr} {ds : List DD} {vs : List V} {Qd : SV → Rho → Prop} {Q : VK} {E : XK}
    (R : Rp K B G H σ ρ fp) (n1 : Nxt K B σ G H fp G1 H1 ρ1 fp1) (rq : RqA K G1 vs ds) (q : F (.ob C [] :: ds.map .dat) fun r as' => r = .dat .non ∧ ∃ t rest, as' = t :: rest ∧ Qd t ρ1)
    (k : ∀ r ρ' v G' H' fp' fr, Nxt K B σ G H fp G' H' ρ' fp' → OT K G' H' v r fr → (∀ a ∈ fr, ¬ In fp' a) → (∀ a ∈ fr, H a = none ∨ In fp a) → Qd r ρ' → Q v H') :
    ∀ p dx, H1 p = none → H1 dx = none → dx ≠ p → spD K F (.ref p :: vs) (upd (upd H1 dx (.own p)) p (.ins C dx [])) (fun v H2 => v = .non ∧ Q (.ref p) H2) E := by
  intro p dx hp hd hne
  have gp : G1 p = none := by
    cases e : G1 p with
    | none => rfl
    | some u => have := n1.rp.co.sub _ _ e; rw [hp] at this; cases this
  have gd : G1 dx = none := by
    cases e : G1 dx with
    | none => rfl
    | some u => have := n1.rp.co.sub _ _ e; rw [hd] at this; cases this
  generalize hH : upd (upd H1 dx (.own p)) p (.ins C dx []) = H2
  have h2p : H2 p = some (.ins C dx []) := by rw [← hH]; exact upd_same
  have h2d : H2 dx = some (.own p) := by rw [← hH, upd_ne hne]; exact upd_same
  have h2o : ∀ a o, H1 a = some o → H2 a = some o := fun a o e => by
    rw [← hH, upd_ne (ne_of_none e hp), upd_ne (ne_of_none e hd)]; exact e
  have h2n : ∀ a, H2 a = none → H1 a = none := fun a e => by
    cases z : H1 a with
    | none => rfl
    | some o => rw [h2o a o z] at e; cases e
  let g : Nat → List Addr := fun i => if i = 0 then [p, dx] else []
  have gin : ∀ a, In g a → a = p ∨ a = dx := fun a ⟨i, m⟩ => by
    by_cases e : i = 0
    · simp [g, e] at m; exact m
    · simp [g, e] at m
  have gn1 : ∀ a, In g a → H1 a = none := fun a m => by
    rcases gin a m with e | e
    · rw [e]; exact hp
    · rw [e]; exact hd
  refine ⟨G1, .ob C [] :: ds.map .dat, g, _, ⟨by simp [rq.length], fun a o e => h2o a o (n1.rp.co.sub a o e), fun i t e => ?_, fun i e => ?_, fun i j a m1 m2 => ?_⟩, q, fun r as' v G' H' fp' fr' c st inn ot d1 d2 ⟨er, t', rest, ea, q2⟩ => ?_⟩
  · cases i with
    | zero =>
      have : SV.ob C [] = t := by simpa using e
      subst this
      exact ⟨.ref p, rfl, .ob h2p h2d gp gd .nil (fun z => hne z.symm) (fun z => nomatch z) (fun z => nomatch z)⟩
    | succ i =>
      have e' : (ds.map SV.dat)[i]? = some t := by simpa using e
      rw [List.getElem?_map] at e'
      cases h : ds[i]? with
      | none => rw [h] at e'; cases e'
      | some d =>
        rw [h] at e'
        have : SV.dat d = t := by simpa using e'
        subst this
        obtain ⟨u, hu, ru⟩ := rq.get h
        exact ⟨u, by simp [hu], .dat ru⟩
  · cases i with
    | zero => exact absurd rfl (e (.ob C []))
    | succ i => rfl
  · cases i with
    | zero =>
      cases j with
      | zero => rfl
      | succ j => cases m2
    | succ i => cases m1
  · subst er ea
    refine ⟨ot.dat_inv.1.non_inv, ?_⟩
    obtain ⟨z, ez, o0⟩ := c.slot 0 t' rfl
    have : z = .ref p := by simpa using ez.symm
    subst this
    have keep : ∀ a o, H1 a = some o → H' a = some o := fun a o e => st.keep a o (fun m => by rw [gn1 a m] at e; cases e) (h2o a o e)
    have hid : ∀ a o, H1 a = some o → G1 a = none → G' a = none := fun a o e g0 => st.hid a o (fun m => by rw [gn1 a m] at e; cases e) (h2o a o e) g0
    have fresh : ∀ a ∈ fp' 0, H1 a = none := fun a m => (inn a ⟨0, m⟩).elim (gn1 a) (h2n a)
    have st2 : Stp (In fp1) G1 H1 G' H' := ⟨st.ex, fun a o _ e => keep a o e, fun a o _ e g0 => hid a o e g0⟩
    have n2 : Nxt K B σ G1 H1 fp1 G' H' ρ1 fp1 := ⟨⟨n1.rp.co.grow st.ex (fun a _ o e => keep a o e) (fun a m => by
      obtain ⟨⟨o, e⟩, g0⟩ := n1.rp.co.here m
      exact hid a o e g0) c.sub, n1.rp.stp.trans st2 n1.rp.own, n1.rp.own, n1.rp.io, n1.rp.lo.trans st.ex⟩, st2, fun _ m => .inl m⟩
    refine k t' ρ1 (.ref p) G' H' fp1 (fp' 0) (n1.trans n2) o0 (fun a m z => ?_) (fun a m => ?_) q2
    · obtain ⟨⟨o, e⟩, _⟩ := n1.rp.co.here z
      rw [fresh a m] at e; cases e
    · by_cases z : In fp a
      · exact .inr z
      · exact .inl (n1.st.fresh z (fresh a m))
section
variable {X : Cx} {io : List Nat} {C : Addr} {x : Str} {ps ks : List Str} {ix : List Nat} {k : Nat} {F : Ctr} {kws : List Keyword} {fk : FDs} {pos pn : Pos}
@[simp] def fMakeP (C : Addr) (F : Ctr) (m : Nat) (ix : List Nat) (fk : FDs) : FE := fun ρ Q => fk ρ fun es ρ1 => es.length = m ∧ F (.ob C [] :: (gP 0 m ix [] es).map .dat) fun r as' => r = .dat .non ∧ ∃ t rest, as' = t :: rest ∧ Q t ρ1
theorem e_makeP (h : HmP_ X.prog X.w X.K X.mg X.base C x ps ks ix k F) (hr : RoomG (k + 1) X.A) (hkw : PDkw X io kws fk) (hg : Gl X x := by rfl) (hdb : (x == ("__debug__" : Str)) = false := by decide)
    (hall : (backToKw pos (keywordEach kws X.env)).all (·.1.isSome) = true := by rfl) (hks : (backToKw pos (keywordEach kws X.env)).filterMap (·.1) = ks := by rfl)
    (hpl : ((backTo pos (starEach [] X.env)).any (·.1) || (backToKw pos (keywordEach kws X.env)).any (·.1.isNone)) = false := by rfl) : PDe X io (.Call (.Name x pn) [] kws pos) (fMakeP C F ks.length ix fk) := by
  obtain ⟨f, fd, hm, M, hb, hF⟩ := h
  obtain ⟨t, a1, a2⟩ := hkw
  refine ⟨_, pe_makeP0 (E := fun _ _ _ => False) M hF hr hg hm hb pass0 a1 hall hks hdb hpl, fun B G H σ ρ fp Qd Q hB R hf kk => ?_⟩
  refine a2 B G H σ ρ fp _ _ hB R hf fun es ρ1 zs G1 H1 fp1 n1 rs ⟨le, q⟩ => ?_
  exact ⟨rfl, by rw [rs.length, le], make_core R n1 (RqA.gP .nil rs) q kk⟩
end
end DL

namespace DL
open PySem PySem.Spec PyProof.Rows L2
section
variable {K : PySem.W.Frag} {f C : Addr} {fd : FuncData} {x qual : Str} {params : Arguments} {body : List Stmt} {scope : Scope} {ps ks : List Str} {n : Nat} {ix : List Nat}
theorem bndP_of (F : FunD K x qual params body scope [] [] f fd)
    (hb : ∀ (kV doc pm : Value) (an : Option Addr) (cdv ct u : Value) (us ws : List Value), us.length = n → ws.length = ks.length → bindArgs (PySem.W.fnOf x qual params body scope .none kV doc pm an cdv ct) ⟨u :: us, ks.zip ws⟩ = pure (ps.zip (u :: gP n ks.length ix us ws))) : BndP K fd ps ks n ix := by
  intro s u us ws _ l1 l2
  obtain ⟨oc, od, dV, kV, doc, pm, an, cdv, ct, osl, rfl, lk, hcd, hD, hK⟩ := F.ex
  rcases hD with ⟨_, rfl⟩ | ⟨e, _⟩
  · exact PySem.BindsTo.of_eq (hb kV doc pm an cdv ct u us ws l1 l2)
  · exact absurd rfl e
theorem bndI_of (F : FunD K x qual params body scope [] [] f fd)
    (hb : ∀ (kV doc pm : Value) (an : Option Addr) (cdv ct : Value) (us ws : List Value), ws.length = ks.length → us.length + ws.length = ps.length → bindArgs (PySem.W.fnOf x qual params body scope .none kV doc pm an cdv ct) ⟨us, ks.zip ws⟩ = pure (ps.zip (us ++ ws))) : BndI K fd ps ks := by
  intro s us ws _ l1 l2
  obtain ⟨oc, od, dV, kV, doc, pm, an, cdv, ct, osl, rfl, lk, hcd, hD, hK⟩ := F.ex
  rcases hD with ⟨_, rfl⟩ | ⟨e, _⟩
  · exact PySem.BindsTo.of_eq (hb kV doc pm an cdv ct us ws l1 l2)
  · exact absurd rfl e
theorem callO_of (F : FunD K x qual params body scope [] [] f fd) (m : Meth K C "__call__" f) : StX.CallO K C f := by
  refine ⟨m.at_, m.fn, ?_⟩
  obtain ⟨oc, od, dV, kV, doc, pm, an, cdv, ct, osl, rfl, lk, hcd, hD, hK⟩ := F.ex
  unfold PySem.W.fnIn
  rw [lk]
end
end DL

namespace DL
open PySem PySem.Spec PyProof.Rows L2
/-! ### zip of a list and a tuple -/
/-- the list at a and the tuple at b, item by item -/
def ItM (K : PySem.W.Frag) (a b : Addr) (xs ys : List V) : It where
  go := fun i H => ∃ x y, SqL K H a xs ∧ SqT K H b ys ∧ xs[i]? = some x ∧ ys[i]? = some y
  yld := fun i H v H' => ∃ T x y, v = .ref T ∧ H T = none ∧ H' = upd H T (.tup [x, y]) ∧ xs[i]? = some x ∧ ys[i]? = some y
  stop := fun i H => SqL K H a xs ∧ SqT K H b ys ∧ (xs.length ≤ i ∨ ys.length ≤ i)
/-- zip's five cells as they stand at turn i -/
structure MixAt (a b : Addr) (n m N i : Nat) (h : Heap) : Prop where
  z : IsZip h (N + 4) (N + 2) (N + 3) .none
  p : IsTupOf2 h (N + 2) (.ref N) (.ref (N + 1))
  o : ∃ x y, IsTupOf2 h (N + 3) x y
  l : h.IsListIter N a i
  t : h.IsTupleIter (N + 1) b i
  le : i ≤ n ∧ i ≤ m
def mixC (N : Nat) : List Addr := [N + 4, N + 2, N + 3, N, N + 1]
theorem mixC_of {N c : Nat} (m : c ∈ mixC N) : c = N + 4 ∨ c = N + 2 ∨ c = N + 3 ∨ c = N ∨ c = N + 1 := by simpa [mixC] using m
theorem mixC_out {N c : Nat} (m : c ∉ mixC N) : c ≠ N + 4 ∧ c ≠ N + 3 ∧ c ≠ N ∧ c ≠ N + 1 := by
  refine ⟨fun e => m ?_, fun e => m ?_, fun e => m ?_, fun e => m ?_⟩ <;> simp [mixC, e]
theorem mixC_le {N c : Nat} (m : c ∈ mixC N) : N ≤ c ∧ c ≤ N + 4 := by
  rcases mixC_of m with q | q | q | q | q <;> subst q <;> exact ⟨by simp, by simp⟩
theorem adN (N j k : Nat) (h : j ≠ k) : N + j ≠ N + k := by omega
theorem one_lt {a N : Nat} (h : a < N) : ∀ c ∈ [a], c < N := fun c m => by
  have : c = a := by simpa using m
  rw [this]; exact h
theorem mix_turn {P : Program} {w : World} {K : PySem.W.Frag} {elts : List Expr} {kk : Nat} {tpos : Pos} {a b N : Nat} {xs ys : List V} (ha : a < N) (hb : b < N) :
    Turn P w K (.Tuple elts kk tpos) (ItM K a b xs ys) (mixC N) (N + 4) (MixAt a b xs.length ys.length N) where
  mem := by simp [mixC]
  obj := fun i h st c m => by
    obtain ⟨u1, e1, _, d1⟩ := st.l
    obtain ⟨u2, e2, _, d2⟩ := st.t
    obtain ⟨x, y, e3⟩ := st.o
    rcases mixC_of m with q | q | q | q | q <;> rw [q]
    · exact ⟨_, st.z, fun v z => nomatch z⟩
    · exact ⟨_, st.p, fun v z => nomatch z⟩
    · exact ⟨_, e3, fun v z => nomatch z⟩
    · exact ⟨u1, e1, fun v z => by rw [d1] at z; cases z⟩
    · exact ⟨u2, e2, fun v z => by rw [d2] at z; cases z⟩
  keep := fun i h h' st k => by
    obtain ⟨x, y, e3⟩ := st.o
    exact ⟨k (N + 4) (by simp [mixC]) _ st.z, k (N + 2) (by simp [mixC]) _ st.p, ⟨x, y, k (N + 3) (by simp [mixC]) _ e3⟩, st.l.at fun u e => k N (by simp [mixC]) u e, st.t.at fun u e => k (N + 1) (by simp [mixC]) u e, st.le⟩
  item := by
    rintro X rfl rfl rfl hc i pins s σ H E I hf st ⟨x, y, hl, ht, hx, hy⟩
    obtain ⟨us, ru, pl, _⟩ := I.list hl
    obtain ⟨vs, rv, pt, _⟩ := I.tuple ht
    obtain ⟨u, hu, r1⟩ := ru.get hx
    obtain ⟨v, hv, r2⟩ := rv.get hy
    obtain ⟨p0, p1, e3⟩ := st.o
    have hd : X.A.in1.handled = none := I.ok.hd hc
    have iu : i < us.toArray.size := by simpa using (List.getElem?_eq_some_iff.mp hu).1
    have iv : i < vs.toArray.size := by simpa using (List.getElem?_eq_some_iff.mp hv).1
    have sz : N + 4 < s.heap.objs.size := Heap.lt_size st.z
    have sep := zip_sep2 (N := N) (one_lt ha) (one_lt hb)
    refine wpAny_pyNext_zipD2_item sep (Draws.list hd N a (Nat.ne_of_lt ha) us.toArray) (Draws.tuple hd (N + 1) b (Nat.ne_of_lt (Nat.lt_succ_of_lt hb)) vs.toArray) st.z st.p e3 ⟨st.l, pl.isList⟩ ⟨st.t, pt⟩ iu iv
      fun x1 x2 h' tk y1 y2 z' TO' s1 s2 hT hsz hk => ⟨_, rfl, wpAny_letOwnedTupleGo_zip (s := { s with heap := h', toks := tk }) z' fun g zg sb => ?_⟩
    have eu : u = x1 := by
      have : us[i]? = some x1 := by simpa using y1
      rw [hu] at this; injection this
    have ev : v = x2 := by
      have : vs[i]? = some x2 := by simpa using y2
      rw [hv] at this; injection this
    subst eu ev
    have hT2 : g.get? s.heap.objs.size = some { cls := .type "tuple", data := .seq #[u, v] } := (sb.2 _ (Nat.ne_of_gt (Nat.lt_of_lt_of_le sz (Nat.le_refl _)))).trans hT
    have new : ObjOk X.prog X.w (upd H s.heap.objs.size (.tup [x, y])) g s.heap.objs.size (.tup [x, y]) := ⟨by show 2 ≤ sizeLine; decide, [u, v], .cons r1 (.cons r2 .nil), ⟨_, hT2, rfl, _, rfl⟩⟩
    have J : Inv X pins σ (upd H s.heap.objs.size (.tup [x, y])) { s with heap := g, toks := tk } := I.turnedNew (t' := tk) (ch := mixC N) (fun c o m e => by
      obtain ⟨c1, c2, c3, c4⟩ := mixC_out m
      exact (sb.2 c c1).trans (hk c o c1 c2 c3 c4 e)) hf (Nat.le_refl _) new
    refine ⟨.ref s.heap.objs.size, _, J, rfl, ⟨_, x, y, rfl, I.hok.fresh (Nat.le_refl _), rfl, hx, hy⟩, ⟨zg, (sb.2 _ (adN N 2 4 (by decide))).trans (hk _ _ (adN N 2 4 (by decide)) (adN N 2 3 (by decide)) (adN N 2 0 (by decide)) (adN N 2 1 (by decide)) st.p), ⟨u, v, (sb.2 _ (adN N 3 4 (by decide))).trans TO'⟩,
      s1.1.at fun o e => (sb.2 _ (adN N 0 4 (by decide))).trans e, s2.1.at fun o e => (sb.2 _ (adN N 1 4 (by decide))).trans e, ?_⟩, fun c m => ?_⟩
    · have := (List.getElem?_eq_some_iff.mp hx).1
      have := (List.getElem?_eq_some_iff.mp hy).1
      omega
    · have lt : c < s.heap.objs.size := Nat.lt_of_le_of_lt (mixC_le m).2 sz
      rw [upd_ne (Nat.ne_of_lt lt)]
      exact (hf c m).1
  done := by
    rintro X rfl rfl rfl hc i pins s σ H E I hf st ⟨hl, ht, hend⟩
    obtain ⟨us, ru, pl, _⟩ := I.list hl
    obtain ⟨vs, rv, pt, _⟩ := I.tuple ht
    obtain ⟨p0, p1, e3⟩ := st.o
    have hd : X.A.in1.handled = none := I.ok.hd hc
    have l1 := ru.length
    have l2 := rv.length
    have le := st.le
    have sep := zip_sep2 (N := N) (one_lt ha) (one_lt hb)
    exact wpAny_pyNext_zipD2_end sep (Draws.list hd N a (Nat.ne_of_lt ha) us.toArray) (Draws.tuple hd (N + 1) b (Nat.ne_of_lt (Nat.lt_succ_of_lt hb)) vs.toArray) st.z st.p e3 ⟨st.l, pl.isList⟩ ⟨st.t, pt⟩ (by simp; omega) (by simp; omega) (by simp; omega)
      fun h' tk hk => ⟨rfl, I.turnedL (t' := tk) (ch := mixC N) (fun c o m e => by
        obtain ⟨c1, c2, c3, c4⟩ := mixC_out m
        exact hk c o c1 c2 c3 c4 e) hf⟩
  self := fun A i s Q E st h => wpAny_pyIter_zip st.z h
def iMix (K : PySem.W.Frag) (ta : TA) : TI := fun σ H R => ta σ H fun vs H1 => ∃ a b xs ys, vs = [.ref a, .ref b] ∧ SqL K H1 a xs ∧ SqT K H1 b ys ∧ R (ItM K a b xs ys) H1
theorem pi_mix {X : Cx} {e e2 : Expr} {ta : TA} {p pos tpos : Pos} {elts : List Expr} {kk : Nat} (hg : Gl X "zip") (hm : X.mg "zip" = none) (ha : PA X [e, e2] ta)
    (hs : starEach [e, e2] X.env = (false, eval e X.env) :: starEach [e2] X.env) (hpl : (backTo pos (starEach [e2] X.env)).any (·.1) = false) :
    PI X (.Tuple elts kk tpos) (.Call (.Name "zip" p) [e, e2] [] pos) (iMix X.K ta) := by
  refine ⟨fun pins s σ H R I h => Call_ (ld_blt I hg hm PyProof.Rows.boot_zip (PyProof.Rows.callWith_type1 (thn (ha.run pos pins s σ H _ I h) fun us s1 ⟨vs, H1, I1, r1, q⟩ => ?_) hs hpl))⟩
  obtain ⟨a, b, xs, ys, ex, hl, ht, q⟩ := q
  subst ex
  obtain ⟨c, d, rfl, rc, rd⟩ := Vals.two r1
  cases rc
  cases rd
  obtain ⟨its, _, pl, _⟩ := I1.list hl
  obtain ⟨its2, _, pt, _⟩ := I1.tuple ht
  obtain ⟨o2, ho2, _⟩ := id pt
  refine zip_begins2 (begins_list a its.toArray) (begins_tuple b its2.toArray) pl.isList pt fun h' z1 z2 z3 g1 g2 hsz hk => wpAny_pyIter_zip z1 ?_
  have J : Inv X pins σ H1 { s1 with heap := h' } := I1.kept (t' := s1.toks) hk
  refine ⟨s1.heap.objs.size + 4, mixC s1.heap.objs.size, _, _, H1, rfl, J, mix_turn pl.lt (Heap.lt_size ho2), ⟨z1, z2, ⟨_, _, z3⟩, ⟨_, g1, rfl, rfl⟩, ⟨_, g2, rfl, rfl⟩, Nat.zero_le _, Nat.zero_le _⟩, fun c m => ?_, q⟩
  have le : s1.heap.objs.size ≤ c := (mixC_le m).1
  exact I1.fpOk le (I1.hok.fresh le)
theorem dj_mix {K : PySem.W.Frag} {G : Hp} {a b : Addr} {xs ys : List V} {ds es : List DD} (h : Rd G a (.lst xs)) (r : RqA K G xs ds) (h2 : SqT K G b ys) (r2 : RqA K G ys es) : DJ K (ItM K a b xs ys) G (zipD ds es) := fun B i G' H' σ ρ fp s R => by
  have hl : SqL K H' a xs := .inl (R.co.sub.rd (s.rd h))
  have hl2 : SqT K H' b ys := R.co.sub.t (s.t h2)
  refine ⟨fun le => ⟨hl, hl2, by rw [r.length, r2.length]; rw [zipD_len] at le; omega⟩, fun d e => ?_⟩
  obtain ⟨x, y, ex, ey, rfl⟩ := zipD_get e
  obtain ⟨v, ev, rv⟩ := r.get ex
  obtain ⟨u, eu, ru⟩ := r2.get ey
  refine ⟨⟨v, u, hl, hl2, ev, eu⟩, fun z H'' q => ?_⟩
  obtain ⟨T, v', u', rfl, hT, rfl, q1, q2⟩ := q
  rw [ev] at q1
  rw [eu] at q2
  cases q1
  cases q2
  refine ⟨_, Nxt.stand R hT, .tup (.inl (.inl upd_same)) ?_⟩
  have gT : G' T = none := by
    cases e : G' T with
    | none => rfl
    | some o => have := R.co.sub _ _ e; rw [hT] at this; cases this
  exact .cons (rv.mono (s.trans fun c o e => by rw [upd_ne (ne_of_none e gT)]; exact e)) (.cons (ru.mono (s.trans fun c o e => by rw [upd_ne (ne_of_none e gT)]; exact e)) .nil)
def iZ2 (K : PySem.W.Frag) (ta : TA) : TI := fun σ H R => ta σ H fun vs H1 => ∃ a b xs ys, vs = [.ref a, .ref b] ∧ SqL K H1 a xs ∧ (SqT K H1 b ys ∧ R (ItM K a b xs ys) H1 ∨ SqL K H1 b ys ∧ R (Itz K a b) H1)
/-- zip of a list with a tuple, or with a list -/
theorem pi_z2 {X : Cx} {e e2 : Expr} {ta : TA} {p pos tpos : Pos} {elts : List Expr} {kk : Nat} (hg : Gl X "zip") (hm : X.mg "zip" = none) (ha : PA X [e, e2] ta)
    (hs : starEach [e, e2] X.env = (false, eval e X.env) :: starEach [e2] X.env) (hpl : (backTo pos (starEach [e2] X.env)).any (·.1) = false) :
    PI X (.Tuple elts kk tpos) (.Call (.Name "zip" p) [e, e2] [] pos) (iZ2 X.K ta) := by
  refine ⟨fun pins s σ H R I h => Call_ (ld_blt I hg hm PyProof.Rows.boot_zip (PyProof.Rows.callWith_type1 (thn (ha.run pos pins s σ H _ I h) fun us s1 ⟨vs, H1, I1, r1, q⟩ => ?_) hs hpl))⟩
  obtain ⟨a, b, xs, ys, ex, hl, q⟩ := q
  subst ex
  obtain ⟨c, d, rfl, rc, rd⟩ := Vals.two r1
  cases rc
  cases rd
  obtain ⟨its, _, pl, _⟩ := I1.list hl
  have fr : ∀ c ∈ mixC s1.heap.objs.size, FpOk X pins H1 c := fun c m => I1.fpOk (mixC_le m).1 (I1.hok.fresh (mixC_le m).1)
  rcases q with ⟨ht, q⟩ | ⟨ht, q⟩
  · obtain ⟨its2, _, pt, _⟩ := I1.tuple ht
    obtain ⟨o2, ho2, _⟩ := id pt
    refine zip_begins2 (begins_list a its.toArray) (begins_tuple b its2.toArray) pl.isList pt fun h' z1 z2 z3 g1 g2 hsz hk => wpAny_pyIter_zip z1 ?_
    have J : Inv X pins σ H1 { s1 with heap := h' } := I1.kept (t' := s1.toks) hk
    exact ⟨s1.heap.objs.size + 4, mixC s1.heap.objs.size, _, _, H1, rfl, J, mix_turn pl.lt (Heap.lt_size ho2), ⟨z1, z2, ⟨_, _, z3⟩, ⟨_, g1, rfl, rfl⟩, ⟨_, g2, rfl, rfl⟩, Nat.zero_le _, Nat.zero_le _⟩, fr, q⟩
  · obtain ⟨its2, _, pt, _⟩ := I1.list ht
    refine zip_begins2 (begins_list a its.toArray) (begins_list b its2.toArray) pl.isList pt.isList fun h' z1 z2 z3 g1 g2 hsz hk => wpAny_pyIter_zip z1 ?_
    have J : Inv X pins σ H1 { s1 with heap := h' } := I1.kept (t' := s1.toks) hk
    exact ⟨s1.heap.objs.size + 4, mixC s1.heap.objs.size, _, _, H1, rfl, J, turn_zip (PySem.W.ktu_apart s1.heap.objs.size a b pl.lt pt.lt), ⟨z1, z2, ⟨_, _, z3⟩, ⟨_, g1, rfl, rfl⟩, ⟨_, g2, rfl, rfl⟩⟩, fr, q⟩
section
variable {X : Cx} {io : List Nat} {a b : Expr} {p pos : Pos}
@[simp] def iZm (fs : FSs) : FI := fun ρ Q => sD fs ρ fun ds ρ1 => ∃ l m, ds = [.lst l, .tup m] ∧ Q (zipD l m) ρ1
theorem i_zm {elts : List Expr} {kk : Nat} {tpos : Pos} {fs : FSs} (hm : X.mg "zip" = none) (h : PDs' X io [a, b] fs) (hg : Gl X "zip" := by rfl) (hs : starEach [a, b] X.env = (false, eval a X.env) :: starEach [b] X.env := by rfl) (hpl : (backTo pos (starEach [b] X.env)).any (·.1) = false := by rfl) :
    PDi X io (.Tuple elts kk tpos) (.Call (.Name "zip" p) [a, b] [] pos) (iZm fs) := by
  obtain ⟨_, a1, a2⟩ := h
  refine ⟨_, pi_mix hg hm a1 hs hpl, fun B G H σ ρ fp Qd Rr hB R hf k => ds_sealed a2 B G H σ ρ fp _ _ hB R hf fun ds ρ1 vs G1 H1 fp1 n r ⟨l, m, ed, q⟩ => ?_⟩
  subst ed
  obtain ⟨v, w, rfl, r1, r2⟩ := r.two
  obtain ⟨c, xs, ev, h, rs⟩ := r1.lst_inv
  obtain ⟨d, ys, ew, h2, rs2⟩ := r2.tup_inv
  exact ⟨c, d, xs, ys, by rw [ev, ew], .inl (n.rp.co.sub.rd h), n.rp.co.sub.t h2, k _ _ _ _ _ _ n (dj_mix h rs h2 rs2) q⟩
/-- zip(a list, a list or a tuple) -/
@[simp] def iZa (fs : FSs) : FI := fun ρ Q => sD fs ρ fun ds ρ1 => ∃ l m, (ds = [.lst l, .tup m] ∨ ds = [.lst l, .lst m]) ∧ Q (zipD l m) ρ1
theorem i_za {elts : List Expr} {kk : Nat} {tpos : Pos} {fs : FSs} (hm : X.mg "zip" = none) (h : PDs' X io [a, b] fs) (hg : Gl X "zip" := by rfl) (hs : starEach [a, b] X.env = (false, eval a X.env) :: starEach [b] X.env := by rfl) (hpl : (backTo pos (starEach [b] X.env)).any (·.1) = false := by rfl) :
    PDi X io (.Tuple elts kk tpos) (.Call (.Name "zip" p) [a, b] [] pos) (iZa fs) := by
  obtain ⟨_, a1, a2⟩ := h
  refine ⟨_, pi_z2 hg hm a1 hs hpl, fun B G H σ ρ fp Qd Rr hB R hf k => ds_sealed a2 B G H σ ρ fp _ _ hB R hf fun ds ρ1 vs G1 H1 fp1 n r ⟨l, m, ed, q⟩ => ?_⟩
  rcases ed with ed | ed <;> subst ed <;> obtain ⟨v, w, rfl, r1, r2⟩ := r.two <;> obtain ⟨c, xs, ev, h, rs⟩ := r1.lst_inv
  · obtain ⟨d, ys, ew, h2, rs2⟩ := r2.tup_inv
    exact ⟨c, d, xs, ys, by rw [ev, ew], .inl (n.rp.co.sub.rd h), .inl ⟨n.rp.co.sub.t h2, k _ _ _ _ _ _ n (dj_mix h rs h2 rs2) q⟩⟩
  · obtain ⟨d, ys, ew, h2, rs2⟩ := r2.lst_inv
    exact ⟨c, d, xs, ys, by rw [ev, ew], .inl (n.rp.co.sub.rd h), .inr ⟨.inl (n.rp.co.sub.rd h2), k _ _ _ _ _ _ n (dj_zip h rs h2 rs2) q⟩⟩
end
end DL

namespace DL
open PySem PySem.Spec PyProof.Rows L2
/-! ### tuples told as data: slices and sums -/
theorem cutD_whole {α : Type} {l : List α} {lo hi : Option Int} (h : HT.sIx l.length 0 lo = 0 ∧ HT.sIx l.length l.length hi = l.length) : DL.cutD l lo hi = l := by
  unfold DL.cutD
  rw [h.1, h.2]
  simp
theorem cut_drop {α : Type} {l : List α} {n : Nat} : DL.cutD l (some (n : Int)) none = l.drop n := by
  unfold DL.cutD
  have e : HT.sIx l.length 0 (some (n : Int)) = min n l.length := by
    unfold HT.sIx
    simp
    omega
  have e2 : HT.sIx l.length l.length none = l.length := rfl
  rw [e, e2]
  by_cases h : n ≤ l.length
  · rw [Nat.min_eq_left h]
    exact List.take_of_length_le (by simp)
  · rw [Nat.min_eq_right (by omega), List.drop_eq_nil_of_le (by omega), List.drop_eq_nil_of_le (by omega), List.take_nil]
section
variable {X : Cx} {io : List Nat} {a b : Expr} {pos : Pos}
@[simp] def fSlT (fa : FO) (fl fh : FP) : FV := fun ρ Q => fa ρ fun x ρ1 => fl ρ1 fun lo ρ2 => fh ρ2 fun hi ρ3 => ∃ ds, resT ρ3 x = some (.dat (.tup ds)) ∧ Q (.tup (DL.cutD ds lo hi)) ρ3
theorem stand_tup {K : PySem.W.Frag} {B : Bs} {σ : L2.St} {G H G' H' : Hp} {ρ ρ' : Rho} {fp fp' : Nat → List Addr} {vs : List V} {ds : List DD} {Q : VK} (R : Rp K B G H σ ρ fp) (n : Nxt K B σ G H fp G' H' ρ' fp') (rs : RqA K G' vs ds)
    (k : ∀ v G'' H'', Nxt K B σ G H fp G'' H'' ρ' fp' → Rq K G'' v (.tup ds) → Q v H'') : ∀ p, H' p = none → Q (.ref p) (upd H' p (.tup vs)) := fun p hp => by
  have n3 := n.trans (Nxt.stand n.rp (o := .tup vs) hp)
  refine k _ _ _ n3 (.tup (.inl (.inl upd_same)) (rs.mono fun a o e => ?_))
  have ne : a ≠ p := fun z => by
    have := n.rp.co.sub _ _ e
    rw [z, hp] at this; cases this
  rw [upd_ne ne]; exact e
theorem v_slT {lo hi : Option Expr} {fa : FO} {fl fh : FP} {p2 : Pos} (ha : PDo X io a fa) (hl : PDp X io lo fl) (hh : PDp X io hi fh) : PDv X io (.Subscript a (.Slice lo hi none p2) pos) (fSlT fa fl fh) := by
  obtain ⟨ta, a1, a2⟩ := ha
  obtain ⟨tl, l1, l2⟩ := hl
  obtain ⟨th, h1, h2⟩ := hh
  refine ⟨_, pe_slice sl_tupA a1 l1 h1, fun B G H σ ρ fp Qd Q hB R hf k => ?_⟩
  refine a2 B G H σ ρ fp _ _ hB R hf fun x ρ1 v1 G1 H1 fp1 n1 o1 hf => ?_
  refine l2 B G1 H1 σ ρ1 fp1 _ _ hB n1.rp hf fun lo ρ2 G2 H2 fp2 n2 hf => ?_
  refine h2 B G2 H2 σ ρ2 fp2 _ _ hB n2.rp hf fun hi ρ3 G3 H3 fp3 n3 ⟨ds, e1, q⟩ => ?_
  have n := (n1.trans n2).trans n3
  obtain ⟨f, ot, hin⟩ := ((o1.next n2).next n3).tree n3.rp e1
  obtain ⟨p, xs, ev, h, rs⟩ := ot.dat_inv.1.tup_inv
  refine ⟨p, xs, ev, n3.rp.co.sub.t h, fun z => ?_, fun _ => stand_tup R n (cut_rqA rs lo hi) fun v G'' H'' n' r' => k _ _ _ _ _ _ n' r' q⟩
  rw [rs.length] at z
  rw [cutD_whole z] at q
  exact k _ _ _ _ _ _ n (.tup h rs) q
@[simp] def fAddT (fa fb : FE) : FV := fun ρ Q => fa ρ fun x ρ1 => fb ρ1 fun y ρ2 => ∃ l m, x = .dat (.tup l) ∧ y = .dat (.tup m) ∧ l.length + m.length ≤ sizeLine ∧ Q (.tup (l ++ m)) ρ2
theorem v_addT {fa fb : FE} (ha : PDe X io a fa) (hb : PDe X io b fb) : PDv X io (.BinOp a .Add b pos) (fAddT fa fb) := by
  obtain ⟨ta, a1, a2⟩ := ha
  obtain ⟨tb, b1, b2⟩ := hb
  refine ⟨_, pe_op op_catA a1 b1, fun B G H σ ρ fp Qd Q hB R hf k => ?_⟩
  refine two_trees a2 b2 (Qd := fun x y ρ2 => ∃ l m, x = .dat (.tup l) ∧ y = .dat (.tup m) ∧ l.length + m.length ≤ sizeLine ∧ Qd (.tup (l ++ m)) ρ2) hB R hf fun x y ρ2 v w G2 H2 fp2 f1 f2 n o1 o2 d12 n1 n2 t1 t2 ⟨l, m, ex, ey, hz, q⟩ => ?_
  subst ex ey
  obtain ⟨p, xs, ev, h1, r1⟩ := o1.dat_inv.1.tup_inv
  obtain ⟨p2, ys, ew, h2, r2⟩ := o2.dat_inv.1.tup_inv
  refine ⟨p, p2, xs, ys, ev, ew, n.rp.co.sub.t h1, n.rp.co.sub.t h2, by rw [r1.length, r2.length]; exact hz, fun z => ?_, fun _ z => ?_, fun _ _ => stand_tup R n (r1.append r2) fun v G'' H'' n' r' => k _ _ _ _ _ _ n' r' q⟩
  · have : l = [] := by have := r1.length; rw [z] at this; exact List.length_eq_zero_iff.mp this.symm
    subst this
    rw [List.nil_append] at q
    exact k _ _ _ _ _ _ n (.tup h2 r2) q
  · have : m = [] := by have := r2.length; rw [z] at this; exact List.length_eq_zero_iff.mp this.symm
    subst this
    rw [List.append_nil] at q
    exact k _ _ _ _ _ _ n (.tup h1 r1) q
/-- a test with all owned trees told as data -/
@[simp] def fTFrz (ft : FT) : FT := fun ρ Q => ft (frzR ρ) fun b ρ' => ρ' = frzR ρ ∧ Q b ρ
theorem t_frz {e : Expr} {ft : FT} (h : PDt X io e ft) : PDt X io e (fTFrz ft) := by
  obtain ⟨tt, h1, h2⟩ := h
  refine ⟨tt, h1, fun B G H σ ρ fp Qd Q hB R hf k => ?_⟩
  have d : DE X.K io (fun σ H Q => tt σ H fun b H' => Q (.bl b) H') (fun ρ Q => ft ρ fun b ρ' => Q (.dat (.bl b)) ρ') := fun B G H σ ρ fp Qd Q hB R hf k =>
    h2 B G H σ ρ fp _ _ hB R hf fun b ρ' G' H' fp' n q => k _ ρ' _ G' H' fp' [] n (.dat (.bl b)) (fun _ z => nomatch z) (fun _ z => nomatch z) q
  refine frz_core d B G H σ ρ fp (fun r => ∃ b, r = .dat (.bl b) ∧ Qd b ρ) (fun v H' => match v with | .bl b => Q b H' | _ => False) hB R ?_ fun r v G' H' fr n _ ot o1 o2 _ ⟨b, er, q⟩ => ?_
  · show ft (frzR ρ) _
    have : (fun b ρ' => ρ' = frzR ρ ∧ Qd b ρ) = fun (b : Bool) ρ' => ρ' = frzR ρ ∧ flatT (.dat (.bl b)) = true ∧ ∃ b1, SV.dat (.bl b) = .dat (.bl b1) ∧ Qd b1 ρ := by
      funext b ρ'
      refine propext ⟨fun ⟨a, c⟩ => ⟨a, rfl, b, rfl, c⟩, fun ⟨a, _, b1, e, c⟩ => ?_⟩
      cases e
      exact ⟨a, c⟩
    rw [← this]
    exact hf
  · subst er
    have := ot.dat_inv.1.bl_inv
    subst this
    exact k b ρ G' H' fp n q
/-- a tuple that holds its trees -/
@[simp] def fTupE (fs : FSs) : FE := fun ρ Q => fs ρ fun ts ρ1 => ts.length ≤ sizeLine ∧ Q (.tp ts) ρ1
theorem e_tupE {es : List Expr} {fs : FSs} {x1} (h : PDs' X io es fs) : PDe X io (.Tuple es x1 pos) (fTupE fs) := by
  obtain ⟨_, a1, a2⟩ := h
  refine ⟨_, pe_tup a1, fun B G H σ ρ fp Qd Q hB R hf k => ?_⟩
  refine a2 B G H σ ρ fp _ _ hB R hf fun ts ρ1 vs G1 H1 fp1 f n1 os t1 t2 ⟨hz, q⟩ => ?_
  refine ⟨by rw [os.length]; exact hz, fun l hl => ?_⟩
  have n3 := n1.trans (Nxt.stand n1.rp (o := .tup vs) hl)
  have gl : G1 l = none := by
    cases e : G1 l with
    | none => rfl
    | some u => have := n1.rp.co.sub _ _ e; rw [hl] at this; cases this
  have nf : ∀ x ∈ f, x ≠ l := fun x m z => by
    obtain ⟨⟨o, e⟩, _⟩ := os.here x m
    rw [z, hl] at e; cases e
  exact k _ _ _ _ _ _ f n3 (.tp (.inl (.inl upd_same)) (os.mono (fun x o e => by rw [upd_ne (ne_of_none e gl)]; exact e) (fun x m o e => by rw [upd_ne (nf x m)]; exact e) fun x m => by rw [upd_ne (nf x m)]; exact (os.here x m).2)) (fun x m => t1 x m) (fun x m => t2 x m) q
end
end DL

namespace DL
open PySem PySem.Spec PyProof.Rows L2
/-! ### statements that may let an exception out: its class, its value, the state -/
abbrev WD := Addr → DD → Rho → Prop
structure SimX (K : PySem.W.Frag) (B : Bs) (Wd : WD) (W : WX) : Prop where
  ex : ∀ G H σ ρ fp C dx v d, Rp K B G H σ ρ fp → G dx = some (.xd [(("value" : Str), v)]) → Rq K G v d → Wd C d ρ → W (.ref C) (some dx) σ H
abbrev FX := WD → FS
def DSx (K : PySem.W.Frag) (io : List Nat) (W : WX) (t : TS) (fs : FX) : Prop := ∀ (B : Bs) G H σ ρ fp Dd Dh Wd, B.io = io → Rp K B G H σ ρ fp → fs Wd Dd ρ → Sim K B Dd Dh → SimX K B Wd W → t Dh σ H
def PDx (X : Cx) (W : WX) (io : List Nat) (st : Stmt) (fs : FX) : Prop := ∃ t, PS X st t ∧ DSx X.K io W t fs
def PDsx (X : Cx) (W : WX) (io : List Nat) (st : List Stmt) (fs : FX) : Prop := ∃ t, PSs X st t ∧ DSx X.K io W t fs
/-- the word that a body has in all contexts alike -/
def canX (K : PySem.W.Frag) (io : List Nat) (fs : FX) : WX → TS := fun W Dh σ H => ∃ (B : Bs) (G : Hp) (ρ : Rho) (fp : Nat → List Addr) (Dd : DEnds) (Wd : WD), B.io = io ∧ Rp K B G H σ ρ fp ∧ fs Wd Dd ρ ∧ Sim K B Dd Dh ∧ SimX K B Wd W
section
variable {X : Cx} {W : WX} {io : List Nat} {st : Stmt} {rest : List Stmt} {f g : FX} {pos : Pos}
theorem PDsx.can (h : PDsx X W io rest f) : PSs X rest (canX X.K io f W) := by
  obtain ⟨t, h1, h2⟩ := h
  exact ⟨fun pins s σ H D I ⟨B, G, ρ, fp, Dd, Wd, hB, R, hf, sm, sx⟩ => h1.run pins s σ H D I (h2 B G H σ ρ fp Dd D Wd hB R hf sm sx)⟩
/-- a statement that lets nothing out -/
theorem x_of {f : FS} (h : PDs X io st f) : PDx X W io st (fun _ => f) := by
  obtain ⟨t, h1, h2⟩ := h
  exact ⟨t, h1, fun B G H σ ρ fp Dd Dh Wd hB R hf s _ => h2 B G H σ ρ fp Dd Dh hB R hf s⟩
theorem xs_of {f : FS} (h : PDss X io rest f) : PDsx X W io rest (fun _ => f) := by
  obtain ⟨t, h1, h2⟩ := h
  exact ⟨t, h1, fun B G H σ ρ fp Dd Dh Wd hB R hf s _ => h2 B G H σ ρ fp Dd Dh hB R hf s⟩
@[simp] def xSeq (f g : FX) : FX := fun Wd D ρ => f Wd { D with nx := g Wd D } ρ
theorem xs_cons (h1 : PDx X W io st f) (h2 : PDsx X W io rest g) : PDsx X W io (st :: rest) (xSeq f g) := by
  obtain ⟨_, a1, a2⟩ := h1
  obtain ⟨_, b1, b2⟩ := h2
  refine ⟨_, pss_cons a1 b1, fun B G H σ ρ fp Dd Dh Wd hB R hf s sx => ?_⟩
  exact a2 B G H σ ρ fp _ _ Wd hB R hf ⟨fun G H σ ρ fp R q => b2 B G H σ ρ fp Dd Dh Wd hB R q s sx, s.rt, s.bk, s.ct⟩ sx
theorem xs_one (h1 : PDx X W io st f) : PDsx X W io [st] f := let ⟨_, a1, a2⟩ := h1; ⟨_, pss_one a1, a2⟩
@[simp] def xIf (c : FT) (f g : FX) : FX := fun Wd D ρ => c ρ fun b ρ1 => if b = true then f Wd D ρ1 else g Wd D ρ1
theorem x_if {c : Expr} {a b : List Stmt} {fc : FT} (hc : PDt X io c fc) (ha : PDsx X W io a f) (hb : PDsx X W io b g) : PDx X W io (.If c a b pos) (xIf fc f g) := by
  obtain ⟨_, c1, c2⟩ := hc
  obtain ⟨_, a1, a2⟩ := ha
  obtain ⟨_, b1, b2⟩ := hb
  refine ⟨_, ps_if c1 a1 b1, fun B G H σ ρ fp Dd Dh Wd hB R hf s sx => ?_⟩
  refine c2 B G H σ ρ fp _ _ hB R hf fun b ρ1 G1 H1 fp1 n q => ?_
  cases b with
  | true => exact a2 B G1 H1 σ ρ1 fp1 Dd Dh Wd hB n.rp q s sx
  | false => exact b2 B G1 H1 σ ρ1 fp1 Dd Dh Wd hB n.rp q s sx
theorem SimX.floor {K : PySem.W.Frag} {B : Bs} {Wd : WD} {L : Hp} (s : SimX K B Wd W) (h : Sub B.L L) : SimX K { B with L := L } Wd W := ⟨fun G H σ ρ fp C dx v d R e r q => s.ex G H σ ρ fp C dx v d (R.unfloor h) e r q⟩
@[simp] def xFor (fi : FI) (fg : FG) (f : FX) : FX := fun Wd D => fFor fi fg (f Wd) D
theorem x_for {body : List Stmt} {e tg : Expr} {fi : FI} {fg : FG} (hp : PassesOwn (model X.prog X.w) X.A X.env X.xe) (hc : X.calm = true) {ks : List Nat} (hi : PDi X io tg e fi) (hg : PDg X io ks tg fg) (hb : PDsx X W io body f) (hs : ∀ x, foldedSetIterable e X.env x = pure x := by intro _; rfl) :
    PDx X W io (.For tg e body [] pos) (xFor fi fg f) := by
  obtain ⟨_, a1, a2⟩ := hi
  obtain ⟨_, b1, b2⟩ := hg
  obtain ⟨_, c1, c2⟩ := hb
  refine ⟨_, ps_for hp hc a1 b1 c1 hs, fun B G H σ ρ fp Dd Dh Wd hB R hf s sx => ?_⟩
  refine a2 B G H σ ρ fp _ _ hB R hf fun ds ρ1 J G1 H1 fp1 n dj ⟨V, w0, hw, hd⟩ => ?_
  have lo : Sub B.L G1 := n.rp.lo
  refine ⟨fun i m σ H => m = ds.length - i ∧ i ≤ ds.length ∧ ∃ G ρ fp, Rp X.K { B with L := G1 } G H σ ρ fp ∧ V i ρ, ⟨_, rfl, Nat.zero_le _, G1, ρ1, fp1, n.rp.floor (Sub.refl _), w0⟩, ?_⟩
  rintro i m σ2 H2 ⟨rfl, hi, G2, ρ2, fp2, R2, w2⟩
  obtain ⟨j1, j2⟩ := dj _ i G2 H2 σ2 ρ2 fp2 R2.lo R2
  by_cases hlt : i < ds.length
  · obtain ⟨d, ed⟩ : ∃ d, ds[i]? = some d := ⟨ds[i], List.getElem?_eq_getElem hlt⟩
    obtain ⟨go, y⟩ := j2 d ed
    refine .inr ⟨go, fun σ' H' => ∃ G ρ fp, Rp X.K { B with L := G1 } G H' σ' ρ fp ∧ V (i + 1) ρ, fun σ' H' q => ⟨ds.length - (i + 1), by omega, rfl, hlt, q⟩, fun x H3 yx => ?_⟩
    obtain ⟨G3, n3, r3⟩ := y x H3 yx
    refine b2 _ G3 H3 σ2 ρ2 fp2 x d _ _ (by exact hB) n3.rp r3 (hw i d ρ2 ed w2) fun σ4 ρ4 fp4 R4 _ _ q4 => ?_
    exact c2 _ G3 H3 σ4 ρ4 fp4 _ _ Wd (by exact hB) R4 q4 ⟨fun G H σ ρ fp R z => ⟨G, ρ, fp, R, z⟩, fun G H σ ρ fp r v fr R o t1 t2 z => s.rt G H σ ρ fp r v fr (R.unfloor lo) o t1 t2 z, fun G H σ ρ fp R z => s.nx G H σ ρ fp (R.unfloor lo) z, fun G H σ ρ fp R z => ⟨G, ρ, fp, R, z⟩⟩ (sx.floor lo)
  · have e : i = ds.length := by omega
    subst e
    exact .inl ⟨j1 (Nat.le_refl _), s.nx _ _ _ _ _ (R2.unfloor lo) (hd ρ2 w2)⟩
end
end DL

namespace DL
open PySem PySem.Spec PyProof.Rows L2
/-! ### defs that let an exception out -/
abbrev XCtr := List SV → (Addr → DD → List SV → Prop) → Prop
/-- the def ends by an exception, told as data -/
def spE (K : PySem.W.Frag) (F : XCtr) : Sp := fun vs H _ E => ∃ G as fp Qd, Co K G H (vs.map some) (as.map some) fp ∧ F as Qd ∧ ∀ C dx v d as' G' H' fp', Co K G' H' (vs.map some) (as'.map some) fp' →
  Stp (In fp) G H G' H' → (∀ a, In fp' a → In fp a ∨ H a = none) → G' dx = some (.xd [(("value" : Str), v)]) → Rq K G' v d → Qd C d as' → E (.ref C) (some dx) H'
/-- the def x stands, and raises as F tells -/
def Hx (P : Program) (w : World) (K : PySem.W.Frag) (mg : Str → Option Value) (base : Heap) (x : Str) (ps : List Str) (k : Nat) (F : XCtr) : Prop :=
  ∃ f fd, mg x = some (.ref f) ∧ PySem.W.keepIn K (.ref f) = true ∧ Binds K fd ps [] ∧ FnG P w K mg base (L2.CX P w) k f fd ps (spE K F)
section
variable {X : Cx} {CX : CXT} {k : Nat} {f : Addr} {fd : FuncData} {ps : List Str} {sp : Sp} {E : L2.St → XK} {x : Str} {p pos pos2 : Pos} {e : Expr} {es : List Expr} {t : TA} {W : WX} {io : List Nat} {fa : FAs} {F : XCtr}
theorem run_fnSG {pins : List (Addr × Obj)} {σ : L2.St} {H : Hp} {s : Shared} {Q : VK} {us : List Value} {vs : List V} (F : FnG X.prog X.w X.K X.mg X.base CX k f fd ps sp) (hr : RoomG k X.A) (hb : Binds X.K fd ps []) (hx : PassesAt CX X σ (E σ))
    (I : Inv X pins σ H s) (r : Vals vs us) (h : sp vs H Q (E σ)) : wpAny (model X.prog X.w) X.A (call (.ref f) us) (EP X pins σ Q) X.xe s := by
  have hl : (us ++ []).length = ps.length := by rw [List.append_nil, ← r.length]; exact F.len _ _ _ _ h
  have hb2 := hb s us I.kIn hl
  rw [List.append_nil] at hb2
  refine wpAny_call (codeAny_mono (F.run X.A X.stack s H ⟨us, []⟩ us vs Q (E σ) hr I.env0 hb2 r h) fun r s' hq => ?_)
  cases r with
  | error e => exact hx pins H s e s' I hq
  | ok fl => cases fl <;> first | exact I.after hq | exact False.elim hq
theorem pe_callSG (F : FnG X.prog X.w X.K X.mg X.base CX k f fd ps sp) (hr : RoomG k X.A) (hg : Gl X x) (hm : X.mg x = some (.ref f)) (hk : PySem.W.keepIn X.K (.ref f) = true) (hb : Binds X.K fd ps []) (hx : ∀ σ, PassesAt CX X σ (E σ))
    (ha : PA X (e :: es) t) (hdb : (x == ("__debug__" : Str)) = false := by decide) (he : starEach (e :: es) X.env = (false, eval e X.env) :: starEach es X.env := by rfl) (hpl : (backTo pos (starEach es X.env)).any (·.1) = false := by rfl) :
    PE X (.Call (.Name x p) (e :: es) [] pos) (tCallS sp E t) := by
  refine ⟨fun pins s σ H Q I h => ?_⟩
  refine wpAny_Call_Name_kw (ld_glob I hg hm ?_ hdb)
  refine PySem.W.callWith_K (h₀ := X.base) I.ok.mod.kin hk (thn (ha.run pos pins s σ H _ I h) fun us s1 ⟨vs, H1, I1, r, q⟩ => ⟨I1.kIn, ?_⟩) he hpl
  exact run_fnSG F hr hb (hx σ) I1 r q
/-- f(a, ..) as a statement, which raises -/
@[simp] def xCall (F : XCtr) (fa : FAs) : FX := fun Wd _ ρ => fa ρ fun avs ρ1 => ∃ as, resA ρ1 avs = some as ∧ (refs avs).Nodup ∧ F as fun C d as' => Wd C d (wb ρ1 avs as')
theorem ds_xcall {K : PySem.W.Frag} (h : DAs K io t fa) {Q : Ends → L2.St → VK} : DSx K io W (fun Dh σ H => tCallS (spE K F) (WE W) t σ H (Q Dh σ)) (xCall F fa) := by
  intro B G H σ ρ fp Dd Dh Wd hB R hf s sx
  refine h B G H σ ρ fp _ _ hB R hf fun avs ρ1 vs G1 H1 fp1 fr n1 ar t1 t2 ⟨as, ha, nd, hF⟩ => ?_
  obtain ⟨g, cg, hg, l1, l2, hr⟩ := args_co n1.rp.co ar t1 nd ha
  have hfr : ∀ a ∈ fr, In B.fp0 a ∨ B.H0 a = none := fun a m => by
    rcases t2 a m with z | z
    · by_cases q : In B.fp0 a
      · exact .inl q
      · exact .inr (R.stp.fresh q z)
    · exact R.own a z
  refine ⟨G1, as, g, _, cg, hF, fun C dx v d as' G' H' g' c' st inn e r q => ?_⟩
  have hl : as'.length = as.length := by
    have e1 := c'.len
    have e2 := cg.len
    simp at e1 e2
    omega
  obtain ⟨fp2, R2, st2, in2, cl⟩ := back_co n1.rp t1 hfr nd ha hg l2 hr c' st inn hl
  exact sx.ex _ _ _ _ _ C dx v d R2 e r q
theorem x_call (tk : Takes X W) (h : Hx X.prog X.w X.K X.mg X.base x ps k F) (hr : RoomG k X.A) (ha : PDas X io (e :: es) fa) (hg : Gl X x := by rfl) (hdb : (x == ("__debug__" : Str)) = false := by decide)
    (he : starEach (e :: es) X.env = (false, eval e X.env) :: starEach es X.env := by rfl) (hpl : (backTo pos (starEach es X.env)).any (·.1) = false := by rfl) (hs : swapsWith (.Call (.Name x p) (e :: es) [] pos) none pos2.line X.env = pure false := by rfl) :
    PDx X W io (.Expr (.Call (.Name x p) (e :: es) [] pos) pos2) (xCall F fa) := by
  obtain ⟨f, fd, h1, h2, h3, h4⟩ := h
  obtain ⟨t, a1, a2⟩ := ha
  exact ⟨_, ps_expr (pe_callSG h4 hr hg h1 h2 h3 (fun σ => passAt tk σ) a1 hdb he hpl) hs, ds_xcall (Q := fun Dh σ _ H => Dh.nx σ H) a2⟩
end
end DL

namespace DL
open PySem PySem.Spec PyProof.Rows L2
section
variable {P : Program} {w : World} {K : PySem.W.Frag} {mg : Str → Option Value} {base : Heap} {f : Addr} {fd : FuncData} {x qual : Str} {params : Arguments} {body : List Stmt} {scope : Scope} {N ps : List Str} {k : Nat}
/-- a def that ends by an exception -/
theorem okX {F : XCtr} (io : List Nat) {fs : FX} (F0 : FunD K x qual params body scope [] [] f fd) (S : FnScope N ps scope)
    (hbody : ∀ (cdv : Value) (A : Around) (outer : List Env) (s : Shared) (H : Hp) (E : XK), RoomG k (A.deeper (envOfC qual scope s.heap.objs.size f cdv)) →
      Takes (cxOf (L2.CX P w) P w K mg base N qual scope f cdv A outer s H E) (fun cls d _ H => E cls d H) → PDsx (cxOf (L2.CX P w) P w K mg base N qual scope f cdv A outer s H E) (fun cls d _ H => E cls d H) io body fs)
    (hsh : ∀ as Q, F as Q → shp ps.length io as = true) (hil0 : (io.all fun i => decide (i < ps.length)) = true)
    (hF : ∀ as Q, F as Q → fs (fun C d ρ => Q C d (outs io as ρ)) ⟨fun _ => False, fun _ _ => False, fun _ => False, fun _ => False⟩ (as.map some ++ List.replicate (N.length - ps.length) none)) :
    FnG P w K mg base (L2.CX P w) (k + 1) f fd ps (spE K F) := by
  have h1 : ∀ as Q, F as Q → as.length = ps.length ∧ shpG io 0 as = true := fun as Q h => by
    have := hsh as Q h
    unfold shp at this
    simpa using this
  have hlen : ∀ as Q, F as Q → as.length = ps.length := fun as Q h => (h1 as Q h).1
  have hil : ∀ i ∈ io, i < ps.length := fun i m => of_decide_eq_true (List.all_eq_true.mp hil0 i m)
  obtain ⟨oc, od, dV, kV, doc, pm, an, cdv, ct, osl, rfl, lk, hcd, _, _⟩ := F0.ex
  have hlen' : ∀ vs H Q E, spE K F vs H Q E → vs.length = ps.length := fun vs H Q E ⟨G, as, fp, Qd, c, hF', _⟩ => by
    have := c.len
    simp at this
    rw [this]; exact hlen as Qd hF'
  refine fn_ofG lk hcd S hlen' fun A outer s H vs Q E hr ⟨G, as, fp, Qd, c, hF', kk⟩ => ?_
  obtain ⟨t, a1, a2⟩ := hbody cdv A outer s H E hr (takes_of rfl rfl rfl rfl)
  refine ⟨t, a1, ?_⟩
  have ea := hlen as Qd hF'
  have ev : vs.length = as.length := by have := c.len; simp at this; exact this
  let B : Bs := ⟨vs, as, io, G, H, fp, fun _ => none⟩
  have R0 : Rp K B G H (L2.start N vs) (as.map some ++ List.replicate (N.length - ps.length) none) fp := by
    refine ⟨?_, Stp.refl G H, fun a h => .inl h, fun i m => ?_, fun a o h => (nomatch h)⟩
    · unfold L2.start
      rw [ev, ea]
      exact c.pad _
    · have li : i < as.length := by rw [ea]; exact hil i m
      have lv : i < vs.length := by rw [ev]; exact li
      exact ⟨vs[i], as[i], List.getElem?_eq_getElem lv, by unfold L2.start; rw [List.getElem?_append_left (by simpa using lv)]; simp [lv], by rw [List.getElem?_append_left (by simpa using li)]; simp [li]⟩
  have hio' : ∀ (i : Nat) t, B.as[i]? = some t → i ∈ B.io ∨ ∃ d, t = .dat d := fun i t e => by simpa using shpG_of (h1 as Qd hF').2 e
  have hil' : ∀ i ∈ B.io, i < B.as.length := fun i m => by rw [show B.as.length = ps.length from ea]; exact hil i m
  refine a2 B G H _ _ fp _ _ _ rfl R0 (hF as Qd hF') ⟨fun _ _ _ _ _ _ z => z.elim, fun _ _ _ _ _ _ _ _ _ _ _ _ z => z.elim, fun _ _ _ _ _ _ z => z.elim, fun _ _ _ _ _ _ z => z.elim⟩ ⟨fun G' H' σ ρ fp' C dx v d R e r q => ?_⟩
  have sub : ∀ a, In (fun i => if i ∈ io then fp' i else []) a → In fp' a := fun a ⟨j, m⟩ => by
    by_cases e : j ∈ io
    · simp only [if_pos e] at m; exact ⟨j, m⟩
    · simp [e] at m
  exact kk C dx v d (outs io as ρ) G' H' _ (outs_co R c hio' hil') R.stp (fun a h => R.own a (sub a h)) e r q
end
end DL

namespace DL
open PySem PySem.Spec PyProof.Rows L2
/-! ### try: .. except X as n: .. -/
theorem Rp.sigN {K : PySem.W.Frag} {B : Bs} {G H : Hp} {σ : L2.St} {ρ : Rho} {fp : Nat → List Addr} {i : Nat} (R : Rp K B G H σ ρ fp) (hi : i ∉ B.io) (hn : ∀ t, ρ[i]? ≠ some (some t)) : Rp K B G H (σ.set i none) ρ fp := by
  refine ⟨⟨by rw [List.length_set]; exact R.co.len, R.co.sub, fun j u h => ?_, R.co.nil, R.co.dis⟩, R.stp, R.own, fun j m => ?_, R.lo⟩
  · have ne : i ≠ j := fun z => hn u (by rw [z]; exact h)
    rw [List.getElem?_set_ne ne]
    exact R.co.slot j u h
  · have ne : i ≠ j := fun z => hi (by rw [z]; exact m)
    obtain ⟨v, t, e1, e2, e3⟩ := R.io j m
    exact ⟨v, t, e1, by rw [List.getElem?_set_ne ne]; exact e2, e3⟩
def canS (K : PySem.W.Frag) (io : List Nat) (fs : FS) : TS := fun Dh σ H => ∃ (B : Bs) (G : Hp) (ρ : Rho) (fp : Nat → List Addr) (Dd : DEnds), B.io = io ∧ Rp K B G H σ ρ fp ∧ fs Dd ρ ∧ Sim K B Dd Dh
section
variable {X : Cx} {W : WX} {io : List Nat} {body suite : List Stmt} {b₀ : Stmt} {f : FX} {g : Addr → Addr → Addr → FS} {pos pos' np : Pos} {x n : Str} {c : Value} {i : Nat}
theorem PDss.can {fs : FS} {st : List Stmt} (h : PDss X io st fs) : PSs X st (canS X.K io fs) := by
  obtain ⟨t, h1, h2⟩ := h
  exact ⟨fun pins s σ H D I ⟨B, G, ρ, fp, Dd, hB, R, hf, sm⟩ => h1.run pins s σ H D I (h2 B G H σ ρ fp Dd D hB R hf sm)⟩
/-- the suite's word, for an exception at a, of a class, with a dict -/
def tSuite (K : PySem.W.Frag) (io : List Nat) (g : Addr → Addr → Addr → FS) : Addr → Value → Option Addr → TS := fun a cls d => match cls, d with
  | .ref C, some dx => canS K io (g a dx C)
  | _, _ => fun _ _ _ => False
@[simp] def xTry (K : PySem.W.Frag) (c : Value) (io : List Nat) (i : Nat) (f : FX) (g : Addr → Addr → Addr → FS) : FX := fun Wd D ρ => i ∉ io ∧ f (fun C d ρ' =>
    (PySem.W.exmOne K (.ref C) c = some true ∧ ∀ a dx, g a dx C { nx := fun ρ'' => D.nx (ρ''.set i none), rt := D.rt, bk := fun ρ'' => D.bk (ρ''.set i none), ct := fun ρ'' => D.ct (ρ''.set i none) } (ρ'.set i (some (.dat (.exc a dx C d))))) ∨
    (PySem.W.exmOne K (.ref C) c = some false ∧ Wd C d ρ')) D ρ
theorem x_try (hs : X.stack = X.env :: X.outer) (hf : X.env.frame = some X.env.locals) (hN : X.N.Nodup) (hi : X.N[i]? = some n) (hln : X.env.kindOf n = some .local) (hc : Names X x c) (tk : Takes X W)
    (hb : ∀ (W : WX) (pn : List (Addr × Obj)) (xe : Value → Shared → Prop), Takes (X.tr pn xe) W → PassesOwn (model X.prog X.w) X.A X.env xe → PDsx (X.tr pn xe) W io body f)
    (hsu : ∀ (a : Addr) (oe : Obj) (C dx : Addr) (pn : List (Addr × Obj)), Zc (.ref C) (some dx) oe → (∃ vs, oe.data = .fields vs) → PDss (X.suite a ((a, oe) :: pn)) io (b₀ :: suite) (g a dx C)) :
    PDx X W io (.Try body [.ExceptHandler (some (.Name x np)) (some n) (b₀ :: suite) pos'] [] [] pos) (xTry X.K c io i f g) := by
  refine ⟨_, ps_try_as (i := i) (tb := canX X.K io f) (ts := tSuite X.K io g) (Wout := W) hs hf hN hi hln hc tk (fun W' pn xe tk' po => (hb W' pn xe tk' po).can) (fun a oe cls d pn z v => ?_), ?_⟩
  · unfold tSuite
    split
    · exact (hsu a oe _ _ pn z v).can
    · exact ⟨fun _ _ _ _ _ _ h => h.elim⟩
  · intro B G H σ ρ fp Dd Dh Wd hB R ⟨hio, hfb⟩ s sx
    refine ⟨B, G, ρ, fp, Dd, _, hB, R, hfb, s, ⟨fun G' H' σ' ρ' fp' C dx v d R' e r q => ?_⟩⟩
    have hi' : i ∉ B.io := by rw [hB]; exact hio
    rcases q with ⟨y, q⟩ | ⟨y, q⟩
    · refine ⟨true, y, fun _ a _ => ?_, fun z => nomatch z⟩
      have ot : OT X.K G' H' (.ref a) (.dat (.exc a dx C d)) [] := .dat (.exc e r)
      have end1 : ∀ {D1 : Rho → Prop} {D2 : L2.St → Hp → Prop}, (∀ G H σ ρ fp, Rp X.K B G H σ ρ fp → D1 ρ → D2 σ H) → ∀ G H σ ρ fp, Rp X.K B G H σ ρ fp → D1 (ρ.set i none) → D2 (σ.set i none) H := fun h G H σ ρ fp R z => by
        have R2 := (R.drop i hi').sigN hi' fun t m => by
          have := set_none_ne m
          exact this.1 rfl
        exact h _ _ _ _ _ R2 z
      exact ⟨B, G', _, _, _, hB, R'.put hi' ot (fun _ z => nomatch z) (fun _ z => nomatch z), q a dx, ⟨end1 s.nx, s.rt, end1 s.bk, end1 s.ct⟩⟩
    · refine ⟨false, y, ?_, fun _ => sx.ex _ _ _ _ _ C dx v d R' e r q⟩
      intro z
      cases z
end
end DL

namespace DL
open PySem PySem.Spec PyProof.Rows L2
/-! ### e.value in an except suite -/
section
variable {X : Cx} {a dx C : Addr} {oe : Obj} {pn : List (Addr × Obj)} {io : List Nat} {e : Expr} {pos : Pos} {fo : FO}
@[simp] def fXval (a dx C : Addr) (fo : FO) : FV := fun ρ Q => fo ρ fun o ρ1 => ∃ d, resT ρ1 o = some (.dat (.exc a dx C d)) ∧ Q d ρ1
theorem v_xval (T : XfC X.K C) (hno : PySem.W.findIn X.K (.ref C) "value" = some none) (hz : Zc (.ref C) (some dx) oe) (hv : ∃ vs, oe.data = .fields vs) (ho : PDo (X.suite a ((a, oe) :: pn)) io e fo) (hb : attributeBase e "value" X.env (eval e X.env) = eval e X.env := by rfl) : PDv (X.suite a ((a, oe) :: pn)) io (.Attribute e "value" pos) (fXval a dx C fo) := by
  obtain ⟨ta, a1, a2⟩ := ho
  refine ⟨_, pe_xf T hno hz hv a1 hb, fun B G H σ ρ fp Qd Q hB R hf k => ?_⟩
  refine a2 B G H σ ρ fp _ _ hB R hf fun o ρ1 v G1 H1 fp1 n1 o1 ⟨d, e1, q⟩ => ?_
  obtain ⟨f, ot, _⟩ := o1.tree n1.rp e1
  cases ot.dat_inv.1 with
  | exc g r => exact ⟨rfl, rfl, dx, _, _, rfl, n1.rp.co.sub _ _ g, rfl, k _ _ _ _ _ _ n1 r q⟩
end
end DL

namespace DL
open PySem PySem.Spec PyProof.Rows L2
/-! ### len and == of instances with a __len__, an __eq__ of their own -/
section
variable {M : Model} {A : Around} {E : Value → Shared → Prop} {s : Shared} {K : PySem.W.Frag} {a C f : Addr} {ox : Obj} {od : Option Obj}
theorem special_own {name : Str} {args : List Value} {Q : Option Value → Shared → Prop} (X : K.In s.heap) (J : PySem.W.InstAt s.heap a ox C od) (hs : PySem.W.findIn K (.ref C) name = some (some (.ref f))) (hf : PySem.W.isFn K (.ref f) = true)
    (h : wpAny M A (call (.ref f) (.ref a :: args)) (fun v => Q (some v)) E s) : wpAny M A (callSpecial? (.ref a) name args) Q E s := by
  have sp : PySem.W.Looks M s.heap (specialOf (.ref a) name) (some (.ref f)) := J.type.andThen (PySem.W.looks_findIn X hs)
  unfold callSpecial?
  refine wpAny_bind (sp.here ?_)
  refine wpAny_holding ?_
  refine wpAny_bind ((PySem.W.bind_fn X (.ref a) (beq_iff_eq.mp hf)).here ?_)
  exact wpAny_bind (wpAny_mono h (fun v s' q => wpAny_pure q) fun _ _ e => e)
end
section
variable {X : Cx} {CX : CXT} {k : Nat} {C g : Addr} {fd : FuncData} {ps : List Str} {sp : Sp} {E : XK} {io : List Nat} {e a b : Expr} {pos p : Pos} {F : Ctr}
def rLenO (C : Addr) (sp : Sp) (E : XK) : List V → Hp → VK → Prop := fun xs H Q => ∃ a dx fs, xs = [.ref a] ∧ H a = some (.ins C dx fs) ∧ sp [.ref a] H (fun v H' => ∃ n : Int, v = .int n ∧ 0 ≤ n ∧ n < 2 ^ 63 ∧ Q v H') E
theorem call_lenO (hm : Meth X.K C "__len__" g) (F : FnG X.prog X.w X.K X.mg X.base CX k g fd ps sp) (hr : RoomG (k + 1) X.A) (hb : Binds X.K fd ps []) (hx : Passes CX X E) : CallR X (.builtin "len") (rLenO C sp E) := by
  intro pins s σ H xs us Q I r h
  obtain ⟨a, dx, fs, rfl, ha, q⟩ := h
  obtain ⟨u, rfl, ru⟩ := vals1 r
  obtain rfl : u = Value.ref a := ru
  obtain ⟨mA, O, _⟩ := ins_get I.hok ha
  obtain ⟨od, J, _⟩ := O.look
  have ln : ([Value.ref a] ++ []).length = ps.length := by simpa using F.len _ _ _ _ q
  have bd := hb s [.ref a] I.kIn ln
  refine Calls.call_function_entry kind_len plain_len entry_len (args_len1 _) ?_
  unfold Builtin.«len»
  refine wpAny_bind (m := oneArg "len" _) (wpAny_pure ?_)
  refine wpAny_bind (m := callSpecial? (.ref a) (PySem.Str.ofString "__len__")) (special_own I.kIn J hm.at_ hm.fn ?_)
  refine wpAny_call (codeAny_mono (F.run X.A.in1 X.stack s H ⟨[.ref a], []⟩ [.ref a] [.ref a] _ E hr.one I.env0.in1 bd (.cons rfl .nil) q) fun r s' hq => ?_)
  cases r with
  | error er => exact hx pins σ H s er s' I hq
  | ok fl =>
    cases fl with
    | next => exact hq.elim
    | brk => exact hq.elim
    | cont => exact hq.elim
    | ret u =>
      obtain ⟨v, H', I3, rv, n, rfl, n0, n1, q3⟩ := I.after hq
      obtain ⟨t, rfl⟩ := rv
      refine wpAny_bind (wpAny_holding (wpAny_pure ?_))
      refine wpAny_bind (wpAny_letGo ?_)
      show wpAny _ _ (if n < 0 then _ else _) _ _ _
      rw [if_neg (by omega)]
      show wpAny _ _ (if n ≥ 2 ^ 63 then _ else _) _ _ _
      rw [if_neg (by omega)]
      exact wpAny_bind (wpAny_mkInt (wpAny_pure ⟨_, rfl, .int n, H', I3.tok _, ⟨_, rfl⟩, q3⟩))
/-- len(e), all data -/
@[simp] def fLenO (C : Addr) (F : Ctr) (fo : FO) : FE := fun ρ Q => fo ρ fun z ρ1 => ∃ ds, resT ρ1 z = some (.dat (.obj C ds)) ∧ F [.dat (.obj C ds)] fun r _ => (∃ n : Int, r = .dat (.int n) ∧ 0 ≤ n ∧ n < 2 ^ 63) ∧ Q r ρ1
theorem e_lenO {fo : FO} (h : Hme_ X.prog X.w X.K X.mg X.base C "__len__" ps k F) (hr : RoomG (k + 1) X.A) (hm : X.mg "len" = none) (ho : PDo X io e fo) (hg : Gl X "len" := by rfl) (he : starEach [e] X.env = (false, eval e X.env) :: starEach [] X.env := by rfl) :
    PDe X io (.Call (.Name "len" p) [e] [] pos) (fLenO C F fo) := by
  obtain ⟨g, fd, c, hmm, hb, hF⟩ := h
  obtain ⟨to, o1, o2⟩ := ho
  refine ⟨_, pe_callB (call_lenO (E := fun _ _ _ => False) hmm hF hr hb pass0) hg hm PySem.boot_len (pa_cons o1 pa_nil he) (by decide) (by decide) he, fun B G H σ ρ fp Qd Q hB R hf kk => ?_⟩
  refine o2 B G H σ ρ fp _ _ hB R hf fun z ρ1 v G1 H1 fp1 n1 o1 ⟨ds, e1, hf⟩ => ?_
  obtain ⟨f, ot, _⟩ := o1.tree n1.rp e1
  have rq := ot.dat_inv.1
  obtain ⟨a, dx, fs, ev, ga, rf⟩ := rq.obj_inv
  subst ev
  refine ⟨a, dx, fs, rfl, n1.rp.co.sub _ _ ga, ?_⟩
  refine spD_data (ds := [.obj C ds]) n1.rp (.cons rq .nil) hf fun r as' v G' H' fr n3 ot2 s1 s2 ⟨⟨n, er, h0, h1⟩, q2⟩ => ?_
  have hv : v = .int n := by
    rw [er] at ot2
    exact ot2.dat_inv.1.int_inv
  refine ⟨n, hv, h0, h1, ?_⟩
  exact kk r ρ1 v G' H' fp1 fr (n1.trans n3) ot2 s1 (fun b m => by
    by_cases z : In fp b
    · exact .inr z
    · exact .inl (n1.st.fresh z (s2 b m))) q2
/-! == -/
def rEqO (C : Addr) (sp : Sp) (E : XK) : R2 := fun x y H Q => ∃ a b dx dy fs gs, x = .ref a ∧ y = .ref b ∧ H a = some (.ins C dx fs) ∧ H b = some (.ins C dy gs) ∧ sp [.ref a, .ref b] H (fun v H' => ∃ z, v = .bl z ∧ Q v H') E
theorem op_eqO (hm : Meth X.K C "__eq__" g) (F : FnG X.prog X.w X.K X.mg X.base CX k g fd ps sp) (hr : RoomG k X.A) (hb : Binds X.K fd ps []) (hx : Passes CX X E) : OpR X (compareOp .Eq) (rEqO C sp E) := by
  intro pins s σ H x y v u Q I rx ry d
  obtain ⟨a, b, dx, dy, fs, gs, rfl, rfl, ha, hb', q⟩ := d
  cases rx
  cases ry
  obtain ⟨mA, J, _⟩ := ins_get I.hok ha
  obtain ⟨mB, J', _⟩ := ins_get I.hok hb'
  obtain ⟨od, J, _⟩ := J.look
  obtain ⟨od', J', _⟩ := J'.look
  obtain ⟨m, hF⟩ := I.fr
  show wpAny (model X.prog X.w) X.A (richCompare .Eq (.ref a) (.ref b)) (EP X pins σ Q) X.xe s
  refine PySem.W.cmp_K (op := .Eq) (tb := .ref C) hr.r.units0 hF I.ok.mod.kin J J'.type (by simp [PySem.W.notFirst]) hm.at_ hm.fn ?_
  have ln : ([Value.ref a, Value.ref b] ++ []).length = ps.length := by simpa using F.len _ _ _ _ q
  have bd := hb s [.ref a, .ref b] I.kIn ln
  refine wpAny_call (codeAny_mono (F.run X.A X.stack s H ⟨[.ref a, .ref b], []⟩ [.ref a, .ref b] [.ref a, .ref b] _ E hr I.env0 bd (.cons rfl (.cons rfl .nil)) q) fun r s' hq => ?_)
  cases r with
  | error er => exact hx pins σ H s er s' I hq
  | ok fl =>
    cases fl with
    | next => exact hq.elim
    | brk => exact hq.elim
    | cont => exact hq.elim
    | ret u =>
      obtain ⟨v, H', I3, rv, z, rfl, q3⟩ := I.after hq
      cases rv
      exact ⟨.bl z, H', I3, rfl, q3⟩
@[simp] def fEqO (C : Addr) (F : Ctr) (fa fb : FO) : FV := fun ρ Q => fa ρ fun x ρ1 => fb ρ1 fun y ρ2 => ∃ ds es, resT ρ2 x = some (.dat (.obj C ds)) ∧ resT ρ2 y = some (.dat (.obj C es)) ∧ F [.dat (.obj C ds), .dat (.obj C es)] fun r _ => ∃ z, r = .dat (.bl z) ∧ Q (.bl z) ρ2
theorem dv_eqO {K : PySem.W.Frag} {E : XK} {ta tb : TE} {fa fb : FO} (ha : DO K io ta fa) (hb : DO K io tb fb) : DV K io (tOp (rEqO C (spD K F) E) ta tb) (fEqO C F fa fb) := by
  intro B G H σ ρ fp Qd Q hB R hf kk
  refine ha B G H σ ρ fp _ _ hB R hf fun x ρ1 v1 G1 H1 fp1 n1 o1 hf => ?_
  refine hb B G1 H1 σ ρ1 fp1 _ _ hB n1.rp hf fun y ρ2 v2 G2 H2 fp2 n2 o2 ⟨ds, es, e1, e2, hf⟩ => ?_
  obtain ⟨f, ot, _⟩ := (o1.next n2).tree n2.rp e1
  obtain ⟨f2, ot2, _⟩ := o2.tree n2.rp e2
  have rq := ot.dat_inv.1
  have rq2 := ot2.dat_inv.1
  obtain ⟨a, dx, fs, ev, ga, _⟩ := rq.obj_inv
  obtain ⟨b, dy, gs, ew, gb, _⟩ := rq2.obj_inv
  subst ev ew
  refine ⟨a, b, dx, dy, fs, gs, rfl, rfl, n2.rp.co.sub _ _ ga, n2.rp.co.sub _ _ gb, ?_⟩
  refine spD_data (ds := [.obj C ds, .obj C es]) n2.rp (.cons rq (.cons rq2 .nil)) hf fun r as' v G' H' fr n3 ot2 s1 s2 ⟨z, er, q2⟩ => ?_
  have hv : v = .bl z := by
    rw [er] at ot2
    exact ot2.dat_inv.1.bl_inv
  subst hv
  exact ⟨z, rfl, kk (.bl z) ρ2 _ G' H' fp2 ((n1.trans n2).trans n3) (.bl z) q2⟩
theorem p_eqO {fa fb : FO} (h : Hme_ X.prog X.w X.K X.mg X.base C "__eq__" ps k F) (hr : RoomG k X.A) (ha : PDo X io a fa) (hb : PDo X io b fb) : PDv X io (.Compare a [.Eq] [b] pos) (fEqO C F fa fb) := by
  obtain ⟨g, fd, c, hmm, hbb, hF⟩ := h
  obtain ⟨ta, a1, a2⟩ := ha
  obtain ⟨tb, b1, b2⟩ := hb
  exact ⟨_, pe_cmpR (op_eqO (E := fun _ _ _ => False) hmm hF hr hbb pass0) a1 b1 (nomark _), dv_eqO a2 b2⟩
theorem q_eqO {fa fb : FO} (h : Hme_ X.prog X.w X.K X.mg X.base C "__eq__" ps k F) (hr : RoomG k X.A) (ha : PDo X io a fa) (hb : PDo X io b fb) : PDt X io (.Compare a [.Eq] [b] pos) (fTst (fEqO C F fa fb)) := by
  obtain ⟨g, fd, c, hmm, hbb, hF⟩ := h
  obtain ⟨ta, a1, a2⟩ := ha
  obtain ⟨tb, b1, b2⟩ := hb
  exact ⟨_, pt_cmpR (op_eqO (E := fun _ _ _ => False) hmm hF hr hbb pass0) a1 b1 (nomark _), dt_T (dv_eqO a2 b2)⟩
end
end DL

namespace DL
open PySem PySem.Spec PyProof.Rows L2
/-! ### what can be compared by its text and by its marks -/
structure Rt (n sz dp ct : Nat) (d : DD) : Prop where
  c : okC n d
  t : okT n (cp d)
  s : okS (cp d) = true
  z : szT (cp d) ≤ sz
  e : dpT (cp d) ≤ dp
  k : cnt (cp d) ≤ ct
theorem noL_cp {d : DD} (h : noL d = true) : cp d = .dat d := by
  cases d with
  | tup l => rw [cp, if_pos (by simpa [noL] using h)]
  | lst l => cases h
  | _ => rfl
theorem labs_nil_of {l : List DD} (h : ∀ d ∈ l, labD d = []) : labs l = [] := labs_nil h
theorem cnts_sum {ct : Nat} : ∀ {ts : List SV}, (∀ t ∈ ts, cnt t ≤ ct) → cnts ts ≤ ts.length * ct
  | [], _ => Nat.zero_le _
  | t :: r, h => by
    have h1 := h t List.mem_cons_self
    have h2 := cnts_sum fun x m => h x (List.mem_cons_of_mem _ m)
    rw [cnts, List.length_cons, Nat.succ_mul]
    omega
theorem szTs_sum {z : Nat} : ∀ {ts : List SV}, (∀ t ∈ ts, szT t ≤ z) → szTs ts ≤ ts.length * (z + 2)
  | [], _ => Nat.zero_le _
  | t :: r, h => by
    have h1 := h t List.mem_cons_self
    have h2 := szTs_sum fun x m => h x (List.mem_cons_of_mem _ m)
    rw [szTs, List.length_cons, Nat.succ_mul]
    omega
theorem dpTs_max {z : Nat} : ∀ {ts : List SV}, (∀ t ∈ ts, dpT t ≤ z) → dpTs ts ≤ z
  | [], _ => Nat.zero_le _
  | t :: r, h => by
    have h1 := h t List.mem_cons_self
    have h2 := dpTs_max fun x m => h x (List.mem_cons_of_mem _ m)
    rw [dpTs]
    omega
theorem okSs_all : ∀ {ts : List SV}, (∀ t ∈ ts, okS t = true) → okSs ts = true
  | [], _ => rfl
  | t :: r, h => by rw [okSs, h t List.mem_cons_self, okSs_all fun x m => h x (List.mem_cons_of_mem _ m)]; rfl
section
variable {n sz dp ct : Nat} {ds : List DD}
theorem Rt.parts (h : ∀ d ∈ ds, Rt n sz dp ct d) : okSs (ds.map cp) = true ∧ szTs (ds.map cp) ≤ ds.length * (sz + 2) ∧ dpTs (ds.map cp) ≤ dp ∧ cnts (ds.map cp) ≤ ds.length * ct := by
  have each : ∀ {P : SV → Prop}, (∀ d ∈ ds, P (cp d)) → ∀ t ∈ ds.map cp, P t := fun q t m => by
    obtain ⟨d, md, rfl⟩ := List.mem_map.mp m
    exact q d md
  refine ⟨okSs_all (each fun d m => (h d m).s), ?_, dpTs_max (each fun d m => (h d m).e), ?_⟩
  · have := szTs_sum (each fun d m => (h d m).z)
    rwa [List.length_map] at this
  · have := cnts_sum (each fun d m => (h d m).k)
    rwa [List.length_map] at this
theorem Rt.lst (h : ∀ d ∈ ds, Rt n sz dp ct d) (hl : ds.length ≤ 1000) : Rt (n + 1) (ds.length * (sz + 2) + 3) (dp + 1) (ds.length * ct + 1) (.lst ds) := by
  obtain ⟨a1, a2, a3, a4⟩ := Rt.parts h
  have e : cp (.lst ds) = .own (ds.map cp) := by rw [cp, cps_eq]
  refine ⟨⟨by omega, fun d m => (h d m).c⟩, ?_, ?_, ?_, ?_, ?_⟩ <;> rw [e]
  · refine ⟨by rw [List.length_map]; omega, fun t m => ?_⟩
    obtain ⟨d, md, rfl⟩ := List.mem_map.mp m
    exact (h d md).t
  · rw [okS]; exact a1
  · rw [szT]; omega
  · rw [dpT]; omega
  · rw [cnt]; omega
theorem Rt.tup (h : ∀ d ∈ ds, Rt n sz dp ct d) (hl : ds.length ≤ 1000) : Rt (n + 1) (ds.length * (sz + 2) + 3) (dp + 1) (ds.length * ct) (.tup ds) := by
  obtain ⟨a1, a2, a3, a4⟩ := Rt.parts h
  by_cases z : noLs ds = true
  · have e : cp (.tup ds) = .dat (.tup ds) := by rw [cp, if_pos z]
    have nl : ∀ d ∈ ds, noL d = true := by
      clear h a1 a2 a3 a4 e hl
      induction ds with
      | nil => intro d m; cases m
      | cons x r ih =>
        rw [noLs] at z
        have z := Bool.and_eq_true_iff.mp z
        intro d m
        rcases List.mem_cons.mp m with rfl | m
        · exact z.1
        · exact ih z.2 d m
    have ok : okS (.tp (ds.map cp)) = true := by rw [okS]; exact a1
    obtain ⟨b1, b2, b3, b4⟩ := szT_ok _ ok
    have ed : (SV.tp (ds.map cp)).data = .tup ds := by
      rw [SV.data, ← cps_eq, cps_data]
    rw [ed] at b1 b2 b3 b4
    have tt : ∀ d ∈ ds, okL n d ∧ labD d = [] := fun d m => by
      have := (h d m).t
      rw [noL_cp (nl d m)] at this
      cases n with
      | zero => exact this.elim
      | succ n => exact this
    have lb : labs ds = [] := labs_nil_of fun d m => (tt d m).2
    refine ⟨⟨by omega, fun d m => (h d m).c⟩, ?_, ?_, ?_, ?_, ?_⟩ <;> rw [e]
    · refine ⟨⟨by omega, by rw [lb]; simp, fun d m => (tt d m).1⟩, ?_⟩
      rw [labD, lb]
    · rw [okS, b1, b2]; rfl
    · rw [szT]
      simp only [szT] at b3
      omega
    · rw [dpT]
      simp only [dpT] at b4
      omega
    · rw [cnt]; exact Nat.zero_le _
  · have e : cp (.tup ds) = .tp (ds.map cp) := by rw [cp, if_neg z, cps_eq]
    refine ⟨⟨by omega, fun d m => (h d m).c⟩, ?_, ?_, ?_, ?_, ?_⟩ <;> rw [e]
    · refine ⟨by rw [List.length_map]; omega, fun t m => ?_⟩
      obtain ⟨d, md, rfl⟩ := List.mem_map.mp m
      exact (h d md).t
    · rw [okS]; exact a1
    · rw [szT]; omega
    · rw [dpT]; omega
    · rw [cnt]; omega
theorem Rt.mono {d : DD} {sz' dp' ct' : Nat} (h : Rt n sz dp ct d) (a : sz ≤ sz' := by omega) (b : dp ≤ dp' := by omega) (c : ct ≤ ct' := by omega) : Rt n sz' dp' ct' d := ⟨h.c, h.t, h.s, Nat.le_trans h.z a, Nat.le_trans h.e b, Nat.le_trans h.k c⟩
theorem Rt.of {d : DD} (r : Rz sz dp d) (hc : okC (n + 1) d) (hl : okL (n + 1) d) (hb : labD d = []) (he : cp d = .dat d) : Rt (n + 1) sz dp 0 d := by
  refine ⟨hc, ?_, ?_, ?_, ?_, ?_⟩ <;> rw [he]
  · exact ⟨hl, hb⟩
  · rw [okS, r.p, r.s]; rfl
  · exact r.l
  · exact r.e
  · exact Nat.le_refl _
theorem Rt.int {i : Int} (h : Sm 12900 i) : Rt (n + 1) 12901 0 0 (.int i) := Rt.of (Rz.big h) trivial trivial rfl rfl
theorem Rt.sml {i : Int} (h : Sm 60 i) : Rt (n + 1) 61 0 0 (.int i) := by
  have hl := h.log (by decide)
  refine Rt.of ⟨rfl, by simp [DD.py, shw]; omega, ?_, Nat.le_refl _⟩ trivial trivial rfl rfl
  show (Str.ofString (toString i)).length ≤ 61
  rw [PySem.ofString_length]
  exact PySem.int_text_length_le (k := 60) (by decide) hl
theorem Rt.nat {k : Nat} (h : k < 2 ^ 60) : Rt (n + 1) 61 0 0 (.int k) := .sml (by unfold Sm; simpa using h)
theorem Rt.ratS {q : Rat} (h : Qb 60 q) : Rt (n + 2) 129 1 0 (rT q) := by
  have := Rt.tup (n := n + 1) (sz := 61) (dp := 0) (ct := 0) (ds := [.int q.num, .int q.den]) (fun d m => by
    rcases List.mem_cons.mp m with rfl | m
    · exact .sml h.n
    · rw [List.mem_singleton.mp m]; exact .sml h.d) (by simp)
  exact this.mono (by simp)
theorem Rt.nonS : Rt (n + 1) 61 0 0 .non := Rt.of (Rz.non.mono (by decide) (by decide)) trivial trivial rfl rfl
theorem Rt.strS {x : Str} (h : (reprText x).length ≤ 61) : Rt (n + 1) 61 0 0 (.str x) := Rt.of (sz := 61) (dp := 0) ⟨rfl, by simp [DD.py, shw], by simpa [shD, DD.py, PyData.shown] using h, Nat.zero_le _⟩ trivial trivial rfl rfl
theorem Rt.non : Rt (n + 1) 12901 0 0 .non := Rt.of (Rz.non.mono (by decide) (by decide)) trivial trivial rfl rfl
theorem Rt.bl {b : Bool} : Rt (n + 1) 12901 0 0 (.bl b) := Rt.of (Rz.bl.mono (by decide) (by decide)) trivial trivial rfl rfl
theorem Rt.str {x : Str} (h : (reprText x).length ≤ 12901) : Rt (n + 1) 12901 0 0 (.str x) := Rt.of (sz := 12901) (dp := 0) ⟨rfl, by simp [DD.py, shw], by simpa [shD, DD.py, PyData.shown] using h, Nat.zero_le _⟩ trivial trivial rfl rfl
theorem Rt.rat {q : Rat} (h : Qb 12900 q) : Rt (n + 2) 25809 1 0 (rT q) := by
  have := Rt.tup (n := n + 1) (sz := 12901) (dp := 0) (ct := 0) (ds := [.int q.num, .int q.den]) (fun d m => by
    rcases List.mem_cons.mp m with rfl | m
    · exact .int h.n
    · rw [List.mem_singleton.mp m]; exact .int h.d) (by simp)
  exact this.mono (by simp)
theorem Rt.right {d : DD} (h : Rt 8 sz dp ct d) (hz : sz + ct * 1923 ≤ 2 ^ 24) (hk : ct < 2 ^ 20) (hd : dp ≤ 60) : okC 8 d ∧ okT 8 (cp d) ∧ cnt (cp d) < 2 ^ 20 ∧ okR d ∧ okR (markT (cp d)).data := by
  have := tree_okR (t := cp d) h.s (by have := h.z; have := Nat.mul_le_mul_right 1923 h.k; omega) (by have := h.k; omega) (by have := h.e; omega)
  rw [cp_data] at this
  exact ⟨h.c, h.t, Nat.lt_of_le_of_lt h.k hk, this.1, this.2⟩
theorem Rt.okR {d : DD} (h : Rt n sz dp ct d) (hz : sz + ct * 1923 ≤ 2 ^ 24) (hk : ct < 2 ^ 20) (hd : dp ≤ 60) : okR d := by
  have := tree_okR (t := cp d) h.s (by have := h.z; have := Nat.mul_le_mul_right 1923 h.k; omega) (by have := h.k; omega) (by have := h.e; omega)
  rw [cp_data] at this
  exact this.1
end
end DL

namespace DL
open PySem PySem.Spec PyProof.Rows L2
/-! small words (told in K3, K7, K9 too) -/
theorem wh {c : FT} {f : FS} {D : DEnds} {ρ : Rho} (W T : Nat → Rho → Prop) (h0 : ∃ m, W m ρ) (h1 : ∀ m ρ, W m ρ → ∀ g : Rho → Prop, (∀ ρ, T m ρ → g ρ) → c ρ fun b ρ1 => if b = true then g ρ1 else D.nx ρ1)
    (h2 : ∀ m ρ, T m ρ → f { D with nx := fun ρ' => ∃ m', m' < m ∧ W m' ρ', ct := fun ρ' => ∃ m', m' < m ∧ W m' ρ', bk := D.nx } ρ) : fWhile c f D ρ := ⟨W, h0, fun m ρ w => h1 m ρ w _ (h2 m)⟩
theorem halt {f : FS} {D : DEnds} {ρ : Rho} (h : ∀ g : Rho → Prop, (∀ ρ, D.nx ρ → g ρ) → f { D with nx := g } ρ) : f D ρ := h D.nx fun _ z => z
theorem if_go {c : FT} {f g : FS} {D : DEnds} {ρ : Rho} (b : Bool) (hc : ∀ Q : Bool → Rho → Prop, Q b ρ → c ρ Q) (h : if b = true then f D ρ else g D ρ) : fIf c f g D ρ := hc _ h
theorem lc_filt {fg : FG} {ft : FT} {fe : FE} {vs : List Nat} {ds : List DD} {Q : SV → Rho → Prop} {ρ1 : Rho} (p : DD → Bool) (g : DD → SV) (hl : ds.length ≤ sizeLine) (hp : plainB ρ1 vs = true)
    (hs : ∀ d ∈ ds, ∀ (R : SV → Rho → Prop) (S : Rho → Prop), (p d = true → R (g d) ρ1) → (p d = false → S ρ1) → fg d (wipeR ρ1 vs) fun ρ2 => ft ρ2 fun b ρ3 => if b = true then fe ρ3 fun r ρ4 => R r (unwipe ρ4 ρ1 vs) else S (unwipe ρ3 ρ1 vs))
    (hd : Q (.own ((ds.filter p).map g)) ρ1) : lcB fg ft fe vs ds Q ρ1 := by
  refine lc_inv (fun i acc ρ => ρ = ρ1 ∧ acc = ((ds.take i).filter p).map g) ⟨rfl, rfl⟩ ?_ ?_
  · rintro i d acc ρ hi ⟨rfl, rfl⟩
    refine ⟨hp, ?_⟩
    have hlt := (List.getElem?_eq_some_iff.mp hi).1
    have lf := List.length_filter_le p (ds.take i)
    have lt : (ds.take i).length ≤ i := by simp; omega
    exact hs d (List.mem_of_getElem? hi) (fun r ρ' => (((ds.take i).filter p).map g).length < sizeLine ∧ ρ' = ρ ∧ ((ds.take i).filter p).map g ++ [r] = ((ds.take (i + 1)).filter p).map g) (fun ρ' => ρ' = ρ ∧ ((ds.take i).filter p).map g = ((ds.take (i + 1)).filter p).map g)
      (fun e => ⟨by rw [List.length_map]; omega, rfl, by rw [List.take_add_one, hi]; simp [e]⟩) (fun e => ⟨rfl, by rw [List.take_add_one, hi]; simp [e]⟩)
  · rintro acc ρ ⟨rfl, rfl⟩
    rw [List.take_length]
    exact hd
theorem if_cut {c : FT} {f g : FS} {D : DEnds} {ρ : Rho} (T E : Rho → Prop) (hc : ∀ P N : Rho → Prop, (∀ ρ, T ρ → P ρ) → (∀ ρ, E ρ → N ρ) → c ρ fun b ρ1 => if b = true then P ρ1 else N ρ1) (hf : ∀ ρ, T ρ → f D ρ) (hg : ∀ ρ, E ρ → g D ρ) : fIf c f g D ρ := hc (f D) (g D) hf hg
/-! ### fractions with a common denominator -/
def Dn (D : Nat) (x : Rat) : Prop := ∃ n : Int, x * (D : Rat) = (n : Rat)
theorem ncast (n : Nat) : (((n : Nat) : Int) : Rat) = (n : Rat) := rfl
theorem Dn.add {D : Nat} {x y : Rat} (h : Dn D x) (h' : Dn D y) : Dn D (x + y) := by
  obtain ⟨n, e⟩ := h
  obtain ⟨m, e'⟩ := h'
  exact ⟨n + m, by rw [Rat.add_mul, e, e', Rat.intCast_add]⟩
theorem Dn.neg {D : Nat} {x : Rat} (h : Dn D x) : Dn D (-x) := by
  obtain ⟨n, e⟩ := h
  exact ⟨-n, by rw [Rat.neg_mul, e, Rat.intCast_neg]⟩
theorem Dn.mul {D E : Nat} {x y : Rat} (h : Dn D x) (h' : Dn E y) : Dn (D * E) (x * y) := by
  obtain ⟨n, e⟩ := h
  obtain ⟨m, e'⟩ := h'
  refine ⟨n * m, ?_⟩
  rw [Rat.intCast_mul, ← e, ← e']
  have : ((D * E : Nat) : Rat) = (D : Rat) * (E : Rat) := by exact_mod_cast rfl
  rw [this]
  grind
theorem Dn.mono {D E : Nat} {x : Rat} (h : Dn D x) (d : D ∣ E) : Dn E x := by
  obtain ⟨n, e⟩ := h
  obtain ⟨k, rfl⟩ := d
  refine ⟨n * k, ?_⟩
  have : ((D * k : Nat) : Rat) = (D : Rat) * (k : Rat) := by exact_mod_cast rfl
  rw [this, Rat.intCast_mul, ← e, ncast]
  grind
theorem Dn.int (D : Nat) (i : Int) : Dn D (i : Rat) := ⟨i * D, by rw [Rat.intCast_mul]; rfl⟩
theorem Dn.self (x : Rat) : Dn x.den x := ⟨x.num, by have := rat_dn x; grind⟩
theorem Dn.dvd {D : Nat} {x : Rat} (h : Dn D x) (d0 : 0 < D) : x.den ∣ D := by
  obtain ⟨n, e⟩ := h
  have dz : (D : Rat) ≠ 0 := by
    have : (D : Int) ≠ 0 := by omega
    have h2 : (((D : Nat) : Int) : Rat) ≠ 0 := by exact_mod_cast this
    exact h2
  have ex : x = Rat.divInt n (D : Int) := by
    rw [Rat.divInt_eq_div, ncast, ← e]
    grind
  rw [ex, Rat.den_divInt, if_neg (by omega)]
  exact Nat.div_dvd_of_dvd (Nat.gcd_dvd_left _ _)
/-- x by y: times the number of y -/
theorem Dn.inv (y : Rat) (h : 0 < y) : Dn y.num.toNat y⁻¹ := by
  have p : 0 < y.num := by
    have : 0 ≤ y.num := Rat.num_nonneg.mpr (by grind)
    have : y.num ≠ 0 := fun z => by
      have := Rat.num_eq_zero.mp z
      grind
    omega
  refine ⟨(y.den : Int), ?_⟩
  have e := rat_dn y
  have e2 : ((y.num.toNat : Nat) : Rat) = (y.num : Rat) := by
    rw [← ncast, Int.toNat_of_nonneg (by omega)]
  rw [e2, ← e, ncast]
  have : y ≠ 0 := by grind
  grind
/-! ### tanks and steps -/
structure Vat where
  w : Option Int
  a : Int
def Vat.d (v : Vat) : DD := .tup [match v.w with
  | none => .non
  | some i => .int i, .int v.a]
def Vat.ok (v : Vat) : Prop := 0 ≤ v.a ∧ v.a ≤ 1000 ∧ ∀ i, v.w = some i → 1 ≤ i ∧ i ≤ 1000
def isNon : DD → Bool
  | .tup (.non :: _) => true
  | _ => false
structure VatsOk (vs : List Vat) : Prop where
  n : 1 ≤ vs.length ∧ vs.length ≤ 20
  v : ∀ v ∈ vs, v.ok
  one : (vs.filter fun v => v.w.isNone).length = 1
inductive Deed where
  | op (ks : List Nat)
  | pr (k : Nat) (a : Int)
  | sc (k : Nat) (p : Rat)
  | mv (i j : Nat) (p : Rat)
  | un (i j : Nat)
def nI (ks : List Nat) : List Int := ks.map fun (k : Nat) => (k : Int)
def Deed.d : Deed → DD
  | .op ks => .tup [.str "open", dI (nI ks)]
  | .pr k a => .tup [.str "pour", .int k, .int a]
  | .sc k p => .tup [.str "scoop", .int k, rT p]
  | .mv i j p => .tup [.str "move", .int i, .int j, rT p]
  | .un i j => .tup [.str "unless", .int i, .int j]
theorem okD_deed (e : Deed) : okD e.d = true := by
  cases e <;> simp [Deed.d, dI, rT, okD, DD.pure, DD.pures, DD.py, DD.pys, SeqAt.shaped, PyData.canLay0, PyData.canLayAll0, PyData.depth, PyData.depthAll, okD_ints] <;> decide +kernel
theorem eqD_deed (e : Deed) : ¬ eqD e.d (.tup []) = true := by
  cases e <;> simp [Deed.d, dI, rT, eqD, DD.py, DD.pys, PyData.eqv, PyData.eqvAll]
theorem nI_rise {ks : List Nat} (h : ks.Pairwise (· < ·)) : (nI ks).Pairwise (· < ·) := by
  unfold nI
  rw [List.pairwise_map]
  exact h.imp fun z => by omega
theorem nons_len (vs : List Vat) : ((vs.map Vat.d).filter isNon).length = (vs.filter fun v => v.w.isNone).length := by
  rw [List.filter_map, List.length_map]
  congr 1
  refine List.filter_congr fun v _ => ?_
  obtain ⟨w, a⟩ := v
  cases w <;> rfl
/-- a part of a whole -/
def Prt (p : Rat) : Prop := 0 ≤ p ∧ p ≤ 1 ∧ p.den ≤ 1000
def Deed.ok (n : Nat) : Deed → Prop
  | .op ks => 2 ≤ ks.length ∧ ks.length ≤ 20 ∧ ks.Pairwise (· < ·) ∧ ∀ k ∈ ks, k < n
  | .pr k a => k < n ∧ 0 ≤ a ∧ a ≤ 1000
  | .sc k p => k < n ∧ Prt p
  | .mv i j p => i < n ∧ j < n ∧ i ≠ j ∧ Prt p
  | .un i j => i < n ∧ j < n ∧ i ≠ j
def tSIZES : List (Str × Int) := [("open", 2), ("pour", 3), ("scoop", 3), ("move", 4), ("unless", 3)]
def sObj (C : Addr) (vs : List Vat) (ds : List Deed) : DD := .obj C [("kept_tanks", .tup (vs.map Vat.d)), ("kept_steps", .tup (ds.map Deed.d))]
/-! ### what a script comes to -/
def wid (x : Rat) (v : Vat) : Rat := match v.w with
  | none => x
  | some i => (i : Rat)
def dQ (l : List Rat) : DD := .lst (l.map rT)
def oQ (l : List Rat) : SV := .own (l.map fun q => SV.dat (rT q))
theorem oQ_data (l : List Rat) : (oQ l).data = dQ l := by
  unfold oQ dQ
  simp only [data_own, SV.datas_eq, List.map_map]
  congr 1
def sumK (u : List Rat) : List Nat → Rat
  | [] => 0
  | k :: ks => u.getD k 0 + sumK u ks
def putK (L : Rat) (ws : List Rat) (u : List Rat) (ks : List Nat) : List Rat := ks.foldl (fun f k => f.set k (L * ws.getD k 0)) u
def stepW (ws u : List Rat) : Deed → List Rat
  | .op ks => putK (sumK u ks / sumK ws ks) ws u ks
  | .pr k a => u.set k (u.getD k 0 + (a : Rat))
  | .sc k p => u.set k (u.getD k 0 + -(u.getD k 0 * p))
  | .mv i j p => (u.set i (u.getD i 0 + -(u.getD i 0 * p))).set j (u.getD j 0 + u.getD i 0 * p)
  | .un _ _ => u
def runW (ws : List Rat) (u : List Rat) (ds : List Deed) : List Rat := ds.foldl (stepW ws) u
theorem less_iff (x y : Rat) : x.num * (y.den : Int) < y.num * (x.den : Int) ↔ x < y := by
  rw [Rat.lt_iff]
@[simp] theorem w_open_pour : ¬ (Str.ofString "open" = Str.ofString "pour") := by decide
@[simp] theorem w_open_scoop : ¬ (Str.ofString "open" = Str.ofString "scoop") := by decide
@[simp] theorem w_open_move : ¬ (Str.ofString "open" = Str.ofString "move") := by decide
@[simp] theorem w_open_unless : ¬ (Str.ofString "open" = Str.ofString "unless") := by decide
@[simp] theorem w_pour_open : ¬ (Str.ofString "pour" = Str.ofString "open") := by decide
@[simp] theorem w_pour_scoop : ¬ (Str.ofString "pour" = Str.ofString "scoop") := by decide
@[simp] theorem w_pour_move : ¬ (Str.ofString "pour" = Str.ofString "move") := by decide
@[simp] theorem w_pour_unless : ¬ (Str.ofString "pour" = Str.ofString "unless") := by decide
@[simp] theorem w_scoop_open : ¬ (Str.ofString "scoop" = Str.ofString "open") := by decide
@[simp] theorem w_scoop_pour : ¬ (Str.ofString "scoop" = Str.ofString "pour") := by decide
@[simp] theorem w_scoop_move : ¬ (Str.ofString "scoop" = Str.ofString "move") := by decide
@[simp] theorem w_scoop_unless : ¬ (Str.ofString "scoop" = Str.ofString "unless") := by decide
@[simp] theorem w_move_open : ¬ (Str.ofString "move" = Str.ofString "open") := by decide
@[simp] theorem w_move_pour : ¬ (Str.ofString "move" = Str.ofString "pour") := by decide
@[simp] theorem w_move_scoop : ¬ (Str.ofString "move" = Str.ofString "scoop") := by decide
@[simp] theorem w_move_unless : ¬ (Str.ofString "move" = Str.ofString "unless") := by decide
@[simp] theorem w_unless_open : ¬ (Str.ofString "unless" = Str.ofString "open") := by decide
@[simp] theorem w_unless_pour : ¬ (Str.ofString "unless" = Str.ofString "pour") := by decide
@[simp] theorem w_unless_scoop : ¬ (Str.ofString "unless" = Str.ofString "scoop") := by decide
@[simp] theorem w_unless_move : ¬ (Str.ofString "unless" = Str.ofString "move") := by decide
/-! ### sizes -/
theorem qb_of {D k m : Nat} {y : Rat} (hd : Dn D y) (d0 : 0 < D) (sD : Sm k (D : Int)) (y0 : 0 ≤ y) (hy : y ≤ ((2 ^ m : Nat) : Rat)) : Qb (k + m + 1) y ∧ Sm k (y.den : Int) := by
  have hden : y.den ≤ D := Nat.le_of_dvd d0 (hd.dvd d0)
  have sd : Sm k (y.den : Int) := sD.le (by simpa using hden)
  have e := rat_dn y
  have n0 : 0 ≤ y.num := Rat.num_nonneg.mpr y0
  have key : y.num ≤ ((2 ^ m * y.den : Nat) : Int) := by
    have h : (y.num : Rat) ≤ (((2 ^ m * y.den : Nat) : Int) : Rat) := by
      have e2 : (((2 ^ m * y.den : Nat) : Int) : Rat) = ((2 ^ m : Nat) : Rat) * (y.den : Rat) := by
        rw [ncast]; exact_mod_cast rfl
      rw [e2, ← e]
      have dp : (0 : Rat) ≤ (y.den : Rat) := by
        have : (0 : Int) ≤ (y.den : Int) := by omega
        have h2 : ((0 : Int) : Rat) ≤ ((y.den : Int) : Rat) := by exact_mod_cast this
        rw [ncast, Rat.intCast_zero] at h2
        exact h2
      rw [Rat.mul_comm ((2 ^ m : Nat) : Rat)]
      exact Rat.mul_le_mul_of_nonneg_left hy dp
    exact_mod_cast h
  refine ⟨⟨?_, sd.mono (by omega)⟩, sd⟩
  have h1 : y.num.natAbs ≤ 2 ^ m * y.den := by omega
  have h2 : y.den < 2 ^ k := by unfold Sm at sd; simpa using sd
  unfold Sm
  have h3 : 2 ^ m * y.den ≤ 2 ^ m * 2 ^ k := Nat.mul_le_mul_left _ (Nat.le_of_lt h2)
  have h4 : 2 ^ m * 2 ^ k = 2 ^ (k + m) := by rw [← Nat.pow_add, Nat.add_comm]
  have h5 : 2 ^ (k + m) < 2 ^ (k + m + 1) := Nat.pow_lt_pow_right (by decide) (by omega)
  omega
theorem rat_div (x y : Rat) (h : 0 < y) : Rat.divInt (x.num * (y.den : Int)) ((x.den : Int) * y.num) = x / y := by
  have ex := rat_dn x
  have ey := rat_dn y
  have dx : (x.den : Rat) ≠ 0 := by
    have := rden x
    have h2 : (((x.den : Int)) : Rat) ≠ 0 := by exact_mod_cast this
    exact h2
  have dy : (y.den : Rat) ≠ 0 := by
    have := rden y
    have h2 : (((y.den : Int)) : Rat) ≠ 0 := by exact_mod_cast this
    exact h2
  have y0 : y ≠ 0 := by grind
  rw [Rat.divInt_eq_div, Rat.intCast_mul, Rat.intCast_mul, ← ex, ← ey, ncast, ncast]
  generalize (x.den : Rat) = a at *
  generalize (y.den : Rat) = b at *
  grind
theorem num_pos {y : Rat} (h : 0 < y) : 0 < y.num := by
  have h1 : 0 ≤ y.num := Rat.num_nonneg.mpr (by grind)
  have h2 : y.num ≠ 0 := fun z => by have := Rat.num_eq_zero.mp z; grind
  omega
theorem sumK_snoc (u : List Rat) (ks : List Nat) (k : Nat) : sumK u (ks ++ [k]) = sumK u ks + u.getD k 0 := by
  induction ks with
  | nil => simp only [List.nil_append, sumK]; rw [Rat.add_zero, Rat.zero_add]
  | cons a ks ih =>
    rw [List.cons_append, sumK, sumK, ih, Rat.add_assoc]
theorem sumK_dn {D : Nat} {u : List Rat} (h : ∀ q ∈ u, Dn D q) : ∀ ks : List Nat, Dn D (sumK u ks)
  | [] => by simpa [sumK] using Dn.int D 0
  | k :: ks => by
    rw [sumK]
    refine Dn.add ?_ (sumK_dn h ks)
    rw [List.getD_eq_getElem?_getD]
    by_cases hk : k < u.length
    · rw [List.getElem?_eq_getElem hk]; exact h _ (List.getElem_mem hk)
    · rw [List.getElem?_eq_none (by omega)]; simpa using Dn.int D 0
theorem getD_memQ {u : List Rat} {k : Nat} (hk : k < u.length) : u.getD k 0 ∈ u := by
  rw [List.getD_eq_getElem?_getD, List.getElem?_eq_getElem hk]
  exact List.getElem_mem hk
theorem sumK_bd {u : List Rat} {B : Rat} (h0 : ∀ q ∈ u, 0 ≤ q) (hB : ∀ q ∈ u, q ≤ B) : ∀ ks : List Nat, (∀ k ∈ ks, k < u.length) → 0 ≤ sumK u ks ∧ sumK u ks ≤ (ks.length : Rat) * B
  | [], _ => by simp [sumK]
  | k :: ks, h => by
    obtain ⟨h1, h2⟩ := sumK_bd h0 hB ks fun a m => h a (List.mem_cons_of_mem _ m)
    have m := getD_memQ (h k List.mem_cons_self)
    have a1 := h0 _ m
    have a2 := hB _ m
    have e : (((k :: ks).length : Nat) : Rat) = (ks.length : Rat) + 1 := by
      rw [List.length_cons]; exact_mod_cast rfl
    rw [sumK, e]
    constructor
    · grind
    · grind
theorem zipD_rats (u ws : List Rat) : zipD (u.map rT) (ws.map rT) = (u.zip ws).map fun p => DD.tup [rT p.1, rT p.2] := by
  induction u generalizing ws with
  | nil => simp [zipD]
  | cons a u ih =>
    cases ws with
    | nil => simp [zipD]
    | cons b ws =>
      have := ih ws
      simp only [zipD, List.map_cons, List.zip_cons_cons] at this ⊢
      rw [this]
def levD : DD → SV
  | .tup [.tup [.int a, .int b], .tup [.int c, .int d]] => .dat (rT (Rat.divInt (a * d) (b * c)))
  | _ => .dat .non
def widD (x : Rat) : DD → SV
  | .tup [.non, _] => .dat (rT x)
  | .tup [.int i, _] => .dat (rT (i : Rat))
  | _ => .dat .non
theorem widD_all (x : Rat) (vs : List Vat) : (vs.map Vat.d).map (widD x) = (vs.map (wid x)).map fun q => SV.dat (rT q) := by
  rw [List.map_map, List.map_map]
  refine List.map_congr_left fun v _ => ?_
  obtain ⟨w, a⟩ := v
  cases w <;> rfl
theorem ratsD_n {F : List Rat} {k : Nat} (h : k < F.length) : atI (F.map rT) (k : Int) = some (rT (F.getD k 0)) := by
  rw [atI_map, atI_nat h, List.getD_eq_getElem?_getD, List.getElem?_eq_getElem h]
  rfl
theorem ratsO_n {F : List Rat} {k : Nat} (h : k < F.length) : atI (F.map fun q => SV.dat (rT q)) (k : Int) = some (.dat (rT (F.getD k 0))) := by
  rw [atI_map, atI_nat h, List.getD_eq_getElem?_getD, List.getElem?_eq_getElem h]
  rfl
theorem putK_snoc (L : Rat) (ws u : List Rat) (ks : List Nat) (k : Nat) : putK L ws u (ks ++ [k]) = (putK L ws u ks).set k (L * ws.getD k 0) := by simp [putK]
theorem putK_len (L : Rat) (ws u : List Rat) (ks : List Nat) : (putK L ws u ks).length = u.length := by
  unfold putK
  induction ks generalizing u with
  | nil => rfl
  | cons k ks ih => rw [List.foldl_cons, ih]; simp
theorem nI_get {ks : List Nat} {i : Nat} {d : DD} (h : ((nI ks).map DD.int)[i]? = some d) : ∃ k, ks[i]? = some k ∧ d = .int k := by
  unfold nI at h
  rw [List.map_map, List.getElem?_map] at h
  cases e : ks[i]? with
  | none => rw [e] at h; cases h
  | some k => rw [e] at h; exact ⟨k, rfl, by simpa using h.symm⟩
theorem take_succ {α : Type} {l : List α} {i : Nat} {a : α} (h : l[i]? = some a) : l.take (i + 1) = l.take i ++ [a] := by
  rw [List.take_add_one, h]
  rfl
/-- sizes of waters: a common denominator -/
structure Wz (D : Nat) (u : List Rat) : Prop where
  d : ∀ q ∈ u, Dn D q
  p : ∀ q ∈ u, 0 ≤ q
  b : ∀ q ∈ u, q ≤ 100000
/-- widths -/
structure Wd (x : Rat) (ws : List Rat) : Prop where
  p : ∀ q ∈ ws, 0 < q
  b : ∀ q ∈ ws, q = x ∨ ∃ i : Int, q = (i : Rat) ∧ 1 ≤ i ∧ i ≤ 1000
theorem Wd.sz {x : Rat} {ws : List Rat} (h : Wd x ws) (hx : Qb 51 x) {q : Rat} (m : q ∈ ws) : Qb 51 q ∧ 0 < q ∧ Dn x.den q ∧ q ≤ ((2 ^ 51 : Nat) : Rat) := by
  have p := h.p q m
  rcases h.b q m with rfl | ⟨i, rfl, i1, i2⟩
  · refine ⟨hx, p, Dn.self q, ?_⟩
    have e := rat_dn q
    have n1 : q.num ≤ ((2 ^ 51 : Nat) : Int) := by
      have := hx.n
      unfold Sm at this
      omega
    have n2 : (q.num : Rat) ≤ (((2 ^ 51 : Nat) : Int) : Rat) := by exact_mod_cast n1
    rw [ncast] at n2
    have d1 : (1 : Int) ≤ (q.den : Int) := by have := q.den_pos; omega
    have d2 : ((1 : Int) : Rat) ≤ (((q.den : Nat) : Int) : Rat) := by exact_mod_cast d1
    rw [ncast, Rat.intCast_one] at d2
    have : q ≤ (q.den : Rat) * q := by
      have := Rat.mul_le_mul_of_nonneg_right d2 (show 0 ≤ q by grind)
      grind
    grind
  · refine ⟨Qb.int (sm_of (k := 51) (b := 1000) (by omega) (by omega)) (by decide), p, Dn.int _ _, ?_⟩
    have : i ≤ ((2 ^ 51 : Nat) : Int) := by omega
    have h2 : (i : Rat) ≤ (((2 ^ 51 : Nat) : Int) : Rat) := by exact_mod_cast this
    rw [ncast] at h2
    exact h2
theorem Wz.sz {D : Nat} {u : List Rat} (h : Wz D u) (d0 : 0 < D) (sD : Sm 4000 (D : Int)) {q : Rat} (m : q ∈ u) : Qb 4020 q ∧ Sm 4000 (q.den : Int) := by
  have b : q ≤ ((2 ^ 17 : Nat) : Rat) := by
    have h1 := h.b q m
    have h2 : ((100000 : Int) : Rat) ≤ (((2 ^ 17 : Nat) : Int) : Rat) := Rat.intCast_le_intCast.mpr (by decide)
    rw [ncast] at h2
    have h3 : ((100000 : Int) : Rat) = (100000 : Rat) := rfl
    rw [h3] at h2
    exact Rat.le_trans h1 h2
  obtain ⟨a, b⟩ := qb_of (m := 17) (h.d q m) d0 sD (h.p q m) b
  exact ⟨a.mono (by decide), b⟩
theorem levD_all (u ws : List Rat) (h : ∀ q ∈ ws, 0 < q) : ((u.zip ws).map fun p => DD.tup [rT p.1, rT p.2]).map levD = (List.zipWith (fun a b => a / b) u ws).map fun q => SV.dat (rT q) := by
  induction u generalizing ws with
  | nil => simp
  | cons a u ih =>
    cases ws with
    | nil => simp
    | cons b ws =>
      simp only [List.zip_cons_cons, List.map_cons, List.zipWith_cons_cons]
      rw [ih ws fun q m => h q (List.mem_cons_of_mem _ m)]
      congr 1
      show SV.dat (rT (Rat.divInt (a.num * (b.den : Int)) ((a.den : Int) * b.num))) = _
      rw [rat_div a b (h b List.mem_cons_self)]
theorem b20 {n m : Nat} {B : Rat} (hn : n ≤ 20) (h0 : 0 ≤ B) (hB : B ≤ ((2 ^ m : Nat) : Rat)) : (n : Rat) * B ≤ ((2 ^ (m + 5) : Nat) : Rat) := by
  have e : ((2 ^ (m + 5) : Nat) : Rat) = (32 : Rat) * ((2 ^ m : Nat) : Rat) := by
    rw [Nat.pow_add, Nat.mul_comm]
    exact_mod_cast rfl
  have h1 : (n : Rat) ≤ 32 := by
    have : (n : Int) ≤ 32 := by omega
    have := Rat.intCast_le_intCast.mpr this
    rw [ncast] at this
    exact this
  rw [e]
  have h2 := Rat.mul_le_mul_of_nonneg_right h1 h0
  have h3 : (32 : Rat) * B ≤ (32 : Rat) * ((2 ^ m : Nat) : Rat) := Rat.mul_le_mul_of_nonneg_left hB (by decide +kernel)
  exact Rat.le_trans h2 h3
theorem b17 : (100000 : Rat) ≤ ((2 ^ 17 : Nat) : Rat) := by
  have h2 : ((100000 : Int) : Rat) ≤ (((2 ^ 17 : Nat) : Int) : Rat) := Rat.intCast_le_intCast.mpr (by decide)
  rw [ncast] at h2
  exact h2
theorem sumW {D : Nat} {u : List Rat} (h : Wz D u) (d0 : 0 < D) (sD : Sm 4000 (D : Int)) {ks : List Nat} (hk : ∀ k ∈ ks, k < u.length) (hn : ks.length ≤ 20) : Qb 4030 (sumK u ks) ∧ Sm 4000 ((sumK u ks).den : Int) := by
  obtain ⟨h1, h2⟩ := sumK_bd h.p h.b ks hk
  obtain ⟨a, b⟩ := qb_of (m := 22) (sumK_dn h.d ks) d0 sD h1 (Rat.le_trans h2 (b20 hn (by decide +kernel) b17))
  exact ⟨a.mono (by decide), b⟩
theorem sumV {x : Rat} {ws : List Rat} (h : Wd x ws) (hx : Qb 51 x) {ks : List Nat} (hk : ∀ k ∈ ks, k < ws.length) (hn : ks.length ≤ 20) : Qb 120 (sumK ws ks) ∧ Sm 51 ((sumK ws ks).den : Int) := by
  obtain ⟨h1, h2⟩ := sumK_bd (B := ((2 ^ 51 : Nat) : Rat)) (fun q m => by have := h.p q m; grind) (fun q m => (h.sz hx m).2.2.2) ks hk
  have p0 : (0 : Rat) ≤ ((2 ^ 51 : Nat) : Rat) := by
    have h2 : ((0 : Int) : Rat) ≤ (((2 ^ 51 : Nat) : Int) : Rat) := Rat.intCast_le_intCast.mpr (by decide)
    rw [ncast] at h2
    exact h2
  obtain ⟨a, b⟩ := qb_of (m := 56) (sumK_dn (fun q m => (h.sz hx m).2.2.1) ks) x.den_pos hx.d h1 (Rat.le_trans h2 (b20 hn p0 Rat.le_refl))
  exact ⟨a.mono (by decide), b⟩
theorem sumV_nn {ws : List Rat} (h : ∀ q ∈ ws, 0 < q) : ∀ ks : List Nat, (∀ k ∈ ks, k < ws.length) → 0 ≤ sumK ws ks
  | [], _ => by simp [sumK]
  | a :: ks, hk => by
    have h4 := h _ (getD_memQ (hk a List.mem_cons_self))
    have h5 := sumV_nn h ks fun b m => hk b (List.mem_cons_of_mem _ m)
    rw [sumK]
    grind
theorem sumV_pos {ws : List Rat} (h : ∀ q ∈ ws, 0 < q) {ks : List Nat} (hk : ∀ k ∈ ks, k < ws.length) (h0 : ks ≠ []) : 0 < sumK ws ks := by
  cases ks with
  | nil => exact absurd rfl h0
  | cons k ks =>
    have h1 := h _ (getD_memQ (hk k List.mem_cons_self))
    have h3 := sumV_nn h ks fun b m => hk b (List.mem_cons_of_mem _ m)
    rw [sumK]
    grind
/-- a quotient's sizes -/
theorem div_sz {x y : Rat} {k l : Nat} (hx : Qb k x) (hy : Qb l y) (h : 0 < y) (dx : Sm m (x.den : Int)) : Qb (k + l) (x / y) ∧ Sm (m + l) ((x / y).den : Int) := by
  have n0 := num_pos h
  have z : (x.den : Int) * y.num ≠ 0 := Int.mul_ne_zero (rden x) (by omega)
  rw [← rat_div x y h]
  refine ⟨Qb.of ((hx.n.mul hy.d)) (hx.d.mul hy.n) z, ?_⟩
  rw [Rat.den_divInt, if_neg z]
  exact (dx.mul hy.n).le (by simp only [Int.natAbs_natCast]; exact Nat.div_le_self _ _)
theorem setO {f : List Rat} {k : Nat} {q : Rat} : (f.map fun q => SV.dat (rT q)).set k (.dat (rT q)) = (f.set k q).map fun q => SV.dat (rT q) := by rw [List.map_set]
theorem Prt.sz {p : Rat} (h : Prt p) : Qb 11 p ∧ Sm 10 (p.den : Int) := by
  obtain ⟨h0, h1, h2⟩ := h
  have e := rat_dn p
  have n0 : 0 ≤ p.num := Rat.num_nonneg.mpr h0
  have sd : Sm 10 (p.den : Int) := sm_of (b := 1000) (by omega) (by omega)
  have n1 : p.num ≤ (p.den : Int) := by
    have dp : (0 : Rat) ≤ (p.den : Rat) := by
      have h2 : ((0 : Int) : Rat) ≤ (((p.den : Nat) : Int) : Rat) := Rat.intCast_le_intCast.mpr (by omega)
      rw [ncast, Rat.intCast_zero] at h2
      exact h2
    have : (p.den : Rat) * p ≤ (p.den : Rat) * 1 := Rat.mul_le_mul_of_nonneg_left h1 dp
    rw [e, Rat.mul_one, ← ncast] at this
    exact Rat.intCast_le_intCast.mp this
  exact ⟨⟨(sm_of (k := 11) (b := 1000) (by omega) (by omega)), sd.mono (by decide)⟩, sd⟩
theorem Prt.n0 {p : Rat} (h : Prt p) : 0 ≤ p.num := Rat.num_nonneg.mpr h.1
theorem Prt.n1 {p : Rat} (h : Prt p) : p.num ≤ (p.den : Int) := by
  obtain ⟨h0, h1, h2⟩ := h
  have e := rat_dn p
  have dp : (0 : Rat) ≤ (p.den : Rat) := by
    have h2 : ((0 : Int) : Rat) ≤ (((p.den : Nat) : Int) : Rat) := Rat.intCast_le_intCast.mpr (by omega)
    rw [ncast, Rat.intCast_zero] at h2
    exact h2
  have : (p.den : Rat) * p ≤ (p.den : Rat) * 1 := Rat.mul_le_mul_of_nonneg_left h1 dp
  rw [e, Rat.mul_one, ← ncast] at this
  exact Rat.intCast_le_intCast.mp this
/-- a step, its list of tanks held by it alone -/
def Deed.t : Deed → SV
  | .op ks => .tp [.dat (.str "open"), oI (nI ks)]
  | e => .dat e.d
theorem cp_deed (e : Deed) : cp e.d = e.t := by
  cases e with
  | op ks =>
    have h : noLs [DD.str "open", dI (nI ks)] = false := by simp [noLs, noL, dI]
    simp only [Deed.d, Deed.t, cp, h, cps, cp_dI]
    rfl
  | _ => simp [Deed.d, Deed.t, cp, noLs, noL, rT]
theorem Deed.t_data (e : Deed) : e.t.data = e.d := by
  rw [← cp_deed]
  exact cp_data e.d
theorem cp_deeds (ds : List Deed) : (ds.map Deed.d).map cp = ds.map Deed.t := by
  rw [List.map_map]
  exact List.map_congr_left fun e _ => cp_deed e
theorem deeds_data (ds : List Deed) : (ds.map Deed.t).map SV.data = ds.map Deed.d := by
  rw [List.map_map]
  exact List.map_congr_left fun e _ => e.t_data
@[simp] theorem ixN21 : ixN 2 1 = some 1 := rfl
@[simp] theorem ixN20 : ixN 2 0 = some 0 := rfl
@[simp] theorem tp_data (ts : List SV) : (SV.tp ts).data = .tup (ts.map SV.data) := by rw [SV.data, SV.datas_eq]
@[simp] theorem flat_nonD : flatT (.dat .non) = true := rfl
@[simp] theorem flat_blD (b : Bool) : flatT (.dat (.bl b)) = true := rfl
@[simp] theorem flat_intD (i : Int) : flatT (.dat (.int i)) = true := rfl
@[simp] theorem flat_strD (x : Str) : flatT (.dat (.str x)) = true := rfl
@[simp] theorem flat_rT (q : Rat) : flatT (.dat (rT q)) = true := rfl
theorem flat_deed (e : Deed) : flatT e.t = true := by
  cases e with
  | op ks => simp [Deed.t, flatT, flatTs, noL]
  | _ => simp [Deed.t, Deed.d, flatT, noL, noLs, rT]
theorem okC_deed {n m : Nat} {e : Deed} (h : e.ok m) (hm : m ≤ 20) : okC (n + 4) e.d := by
  cases e with
  | op ks =>
    have l : (nI ks).length ≤ 1000 := by have := h.2.1; simp [nI]; omega
    refine ⟨by simp, fun d m => ?_⟩
    rcases List.mem_cons.mp m with rfl | m
    · exact trivial
    · have : d = dI (nI ks) := by simpa using m
      subst this
      exact okC_ints (n := n + 1) l
  | pr k a =>
    refine ⟨by simp, fun d m => ?_⟩
    simp at m
    rcases m with rfl | rfl | rfl <;> exact trivial
  | sc k p =>
    refine ⟨by simp, fun d m => ?_⟩
    simp at m
    rcases m with rfl | rfl | rfl
    · exact trivial
    · exact trivial
    · exact okC_rat (n := n + 1)
  | mv i j p =>
    refine ⟨by simp, fun d m => ?_⟩
    simp at m
    rcases m with rfl | rfl | rfl | rfl
    · exact trivial
    · exact trivial
    · exact trivial
    · exact okC_rat (n := n + 1)
  | un i j =>
    refine ⟨by simp, fun d m => ?_⟩
    simp at m
    rcases m with rfl | rfl | rfl <;> exact trivial
theorem rT_neg (m : Rat) : rT (-m) = .tup [.int (-m.num), .int m.den] := by simp [rT]
theorem Qb.neg {k : Nat} {m : Rat} (h : Qb k m) : Qb k (-m) := ⟨by rw [show (-m).num = -m.num from rfl]; exact h.n.neg, h.d⟩
theorem den_le2 {a b : Int} (h : b ≠ 0) {k : Nat} (hb : Sm k b) : Sm k ((Rat.divInt a b).den : Int) := by
  rw [Rat.den_divInt, if_neg h]
  exact hb.le (by simp only [Int.natAbs_natCast]; exact Nat.div_le_self _ _)
theorem den_mul2 (x y : Rat) {k l : Nat} (hx : Sm k (x.den : Int)) (hy : Sm l (y.den : Int)) : Sm (k + l) ((x * y).den : Int) := by
  rw [← rat_mul]
  refine den_le2 ?_ (hx.mul hy)
  exact Int.mul_ne_zero (rden x) (rden y)
/-! ### all water -/
def tot : List Rat → Rat
  | [] => 0
  | a :: l => a + tot l
theorem tot_set : ∀ {u : List Rat} {k : Nat} (v : Rat), k < u.length → tot (u.set k v) = tot u - u.getD k 0 + v
  | [], k, v, h => by simp at h
  | a :: u, 0, v, h => by
    simp only [List.set_cons_zero, tot, List.getD_cons_zero]
    grind
  | a :: u, k + 1, v, h => by
    have := tot_set (u := u) (k := k) v (by simpa using h)
    simp only [List.set_cons_succ, tot, List.getD_cons_succ, this]
    grind
theorem tot_nn : ∀ {u : List Rat}, (∀ q ∈ u, 0 ≤ q) → 0 ≤ tot u
  | [], _ => by simp [tot]
  | a :: u, h => by
    have h1 := h a List.mem_cons_self
    have h2 := tot_nn (u := u) fun q m => h q (List.mem_cons_of_mem _ m)
    simp only [tot]
    grind
theorem tot_ge : ∀ {u : List Rat}, (∀ q ∈ u, 0 ≤ q) → ∀ q ∈ u, q ≤ tot u
  | [], _, q, m => by cases m
  | a :: u, h, q, m => by
    have h1 := h a List.mem_cons_self
    have h2 := tot_nn (u := u) fun q m => h q (List.mem_cons_of_mem _ m)
    simp only [tot]
    rcases List.mem_cons.mp m with rfl | m
    · grind
    · have := tot_ge (u := u) (fun q m => h q (List.mem_cons_of_mem _ m)) q m
      grind
theorem set_all {P : Rat → Prop} {u : List Rat} (h : ∀ q ∈ u, P q) {k : Nat} {v : Rat} (hv : P v) : ∀ q ∈ u.set k v, P q := fun q m => by
  rcases List.mem_or_eq_of_mem_set m with m | rfl
  · exact h q m
  · exact hv
theorem putK_all {P : Rat → Prop} (L : Rat) (ws : List Rat) : ∀ {ks : List Nat} {u : List Rat}, (∀ q ∈ u, P q) → (∀ k ∈ ks, P (L * ws.getD k 0)) → ∀ q ∈ putK L ws u ks, P q
  | [], u, h, _ => h
  | k :: ks, u, h, hk => putK_all L ws (ks := ks) (u := u.set k (L * ws.getD k 0)) (set_all h (hk k List.mem_cons_self)) fun j m => hk j (List.mem_cons_of_mem _ m)
theorem getD_setne {u : List Rat} {k j : Nat} {v : Rat} (h : k ≠ j) : (u.set k v).getD j 0 = u.getD j 0 := by
  rw [List.getD_eq_getElem?_getD, List.getElem?_set_ne h, ← List.getD_eq_getElem?_getD]
theorem getD_seteq {u : List Rat} {k : Nat} {v : Rat} (h : k < u.length) : (u.set k v).getD k 0 = v := by
  rw [List.getD_eq_getElem?_getD, List.getElem?_set_self h]
  rfl
theorem sumK_set {u : List Rat} {k : Nat} {v : Rat} : ∀ {ks : List Nat}, k ∉ ks → sumK (u.set k v) ks = sumK u ks
  | [], _ => rfl
  | j :: ks, h => by
    rw [sumK, sumK, sumK_set (ks := ks) fun m => h (List.mem_cons_of_mem _ m), getD_setne fun e => h (by rw [e]; exact List.mem_cons_self)]
theorem tot_putK (L : Rat) (ws : List Rat) : ∀ {ks : List Nat} {u : List Rat}, ks.Pairwise (· < ·) → (∀ k ∈ ks, k < u.length) → tot (putK L ws u ks) = tot u - sumK u ks + L * sumK ws ks
  | [], u, _, _ => by
    show tot u = tot u - 0 + L * 0
    grind
  | k :: ks, u, hp, hk => by
    obtain ⟨h1, h2⟩ := List.pairwise_cons.mp hp
    have nk : k ∉ ks := fun m => by have := h1 k m; omega
    have ih := tot_putK L ws (ks := ks) (u := u.set k (L * ws.getD k 0)) h2 fun j m => by simpa using hk j (List.mem_cons_of_mem _ m)
    show tot (putK L ws (u.set k (L * ws.getD k 0)) ks) = _
    rw [ih, tot_set _ (hk k List.mem_cons_self), sumK_set nk, sumK, sumK]
    grind
theorem putK_get (L : Rat) (ws : List Rat) : ∀ {ks : List Nat} {u : List Rat}, ks.Pairwise (· < ·) → (∀ k ∈ ks, k < u.length) → ∀ j, (putK L ws u ks).getD j 0 = if j ∈ ks then L * ws.getD j 0 else u.getD j 0
  | [], u, _, _, j => by simp [putK]
  | k :: ks, u, hp, hk, j => by
    obtain ⟨h1, h2⟩ := List.pairwise_cons.mp hp
    have nk : k ∉ ks := fun m => by have := h1 k m; omega
    have ih := putK_get L ws (ks := ks) (u := u.set k (L * ws.getD k 0)) h2 (fun j m => by simpa using hk j (List.mem_cons_of_mem _ m)) j
    show (putK L ws (u.set k (L * ws.getD k 0)) ks).getD j 0 = _
    rw [ih]
    by_cases e : j = k
    · subst e
      rw [if_neg nk, if_pos List.mem_cons_self, getD_seteq (hk j List.mem_cons_self)]
    · rw [getD_setne fun z => e z.symm]
      by_cases m : j ∈ ks
      · rw [if_pos m, if_pos (List.mem_cons_of_mem _ m)]
      · rw [if_neg m, if_neg fun z => (List.mem_cons.mp z).elim e m]
theorem Dn.of_mul {D n : Nat} {a b : Rat} (ha : Dn D a) {i : Int} (hb : b * (n : Rat) = (i : Rat)) : Dn (D * n) (a * b) := by
  obtain ⟨j, e⟩ := ha
  refine ⟨j * i, ?_⟩
  have : ((D * n : Nat) : Rat) = (D : Rat) * (n : Rat) := by exact_mod_cast rfl
  rw [this, Rat.intCast_mul, ← e, ← hb]
  grind
/-- what the widths of some tanks come to, times their denominator -/
theorem wide_int {x : Rat} {ws : List Rat} (h : Wd x ws) (hx : Qb 51 x) {ks : List Nat} (hk : ∀ k ∈ ks, k < ws.length) (hn : ks.length ≤ 20) (h0 : ks ≠ []) : ∃ n : Nat, 0 < n ∧ n < 2 ^ 66 ∧ sumK ws ks * (x.den : Rat) = (n : Rat) := by
  obtain ⟨i, e⟩ := sumK_dn (fun q m => (h.sz hx m).2.2.1) ks
  have vp := sumV_pos h.p hk h0
  have dp : (0 : Rat) < (x.den : Rat) := by
    have h2 : ((0 : Int) : Rat) < (((x.den : Nat) : Int) : Rat) := Rat.intCast_lt_intCast.mpr (by have := x.den_pos; omega)
    rw [ncast, Rat.intCast_zero] at h2
    exact h2
  have ip : 0 < i := by
    have : (0 : Rat) < (i : Rat) := by rw [← e]; exact Rat.mul_pos vp dp
    rw [← Rat.intCast_zero] at this
    exact Rat.intCast_lt_intCast.mp this
  have xb : ∀ q ∈ ws, q * (x.den : Rat) ≤ ((2 ^ 61 : Nat) : Rat) := fun q m => by
    have sd : (x.den : Int) < 2 ^ 51 := by
      have := hx.d
      unfold Sm at this
      omega
    rcases h.b q m with rfl | ⟨j, rfl, j1, j2⟩
    · rw [Rat.mul_comm, rat_dn]
      have n1 : q.num ≤ ((2 ^ 61 : Nat) : Int) := by
        have := hx.n
        unfold Sm at this
        omega
      have n2 := Rat.intCast_le_intCast.mpr n1
      rw [ncast] at n2
      exact n2
    · rw [← ncast, ← Rat.intCast_mul]
      have n1 : j * (x.den : Int) ≤ ((2 ^ 61 : Nat) : Int) := by
        have : j * (x.den : Int) ≤ 1000 * (x.den : Int) := Int.mul_le_mul_of_nonneg_right j2 (by omega)
        omega
      have n2 := Rat.intCast_le_intCast.mpr n1
      rw [ncast] at n2
      exact n2
  have sb : ∀ ks : List Nat, (∀ k ∈ ks, k < ws.length) → sumK ws ks * (x.den : Rat) ≤ (ks.length : Rat) * ((2 ^ 61 : Nat) : Rat) := by
    intro ks
    induction ks with
    | nil => intro _; simp [sumK]
    | cons k ks ih =>
      intro hk
      have a1 := ih fun a m => hk a (List.mem_cons_of_mem _ m)
      have a2 := xb _ (getD_memQ (hk k List.mem_cons_self))
      have e : (((k :: ks).length : Nat) : Rat) = (ks.length : Rat) + 1 := by
        rw [List.length_cons]; exact_mod_cast rfl
      rw [sumK, e, Rat.add_mul, Rat.add_mul, Rat.one_mul, Rat.add_comm]
      grind
  have b1 := sb ks hk
  rw [e] at b1
  have b2 : (i : Rat) ≤ (((20 * 2 ^ 61 : Nat) : Int) : Rat) := by
    have l1 : (ks.length : Rat) * ((2 ^ 61 : Nat) : Rat) = (((ks.length * 2 ^ 61 : Nat) : Int) : Rat) := by
      rw [ncast]; exact_mod_cast rfl
    rw [l1] at b1
    refine Rat.le_trans b1 (Rat.intCast_le_intCast.mpr ?_)
    have := Nat.mul_le_mul_right (2 ^ 61) hn
    omega
  have b3 := Rat.intCast_le_intCast.mp b2
  refine ⟨i.toNat, by omega, by omega, ?_⟩
  rw [e, ← ncast, Int.toNat_of_nonneg (by omega)]
theorem inv_nn {v : Rat} (h : 0 < v) : 0 ≤ v⁻¹ := by
  rcases Rat.le_total (a := 0) (b := v⁻¹) with z | z
  · exact z
  · have h1 := Rat.mul_le_mul_of_nonneg_left z (show 0 ≤ v by grind)
    have : v ≠ 0 := by grind
    have h2 : v * v⁻¹ = 1 := by grind
    rw [h2, Rat.mul_zero] at h1
    exact absurd h1 (by decide +kernel)
def poured : Deed → Int
  | .pr _ a => a
  | _ => 0
structure Grow (D : Nat) (e : Deed) (u v : List Rat) (m : Nat) : Prop where
  m0 : 0 < m
  m1 : m < 2 ^ 66
  d : ∀ q ∈ v, Dn (D * m) q
  p : ∀ q ∈ v, 0 ≤ q
  t : tot v ≤ tot u + (poured e : Rat)
  l : v.length = u.length
theorem part_dn {D : Nat} {a p : Rat} (h : Dn D a) : Dn (D * p.den) (a * p) := h.mul (Dn.self p)
theorem getD_dn {D : Nat} {u : List Rat} (h : ∀ q ∈ u, Dn D q) {k : Nat} (hk : k < u.length) : Dn D (u.getD k 0) := h _ (getD_memQ hk)
theorem step_ok {x : Rat} {D : Nat} {ws u : List Rat} {e : Deed} (h : Wd x ws) (hx : Qb 51 x) (hl : ws.length = u.length) (he : e.ok u.length) (hd : ∀ q ∈ u, Dn D q) (hp : ∀ q ∈ u, 0 ≤ q) : ∃ m, Grow D e u (stepW ws u e) m := by
  cases e with
  | un i j => exact ⟨1, by decide, by decide, by rw [Nat.mul_one]; exact hd, hp, by show tot u ≤ tot u + ((0 : Int) : Rat); rw [Rat.intCast_zero]; grind, rfl⟩
  | op ks =>
    obtain ⟨k1, k2, k3, k4⟩ := he
    have kw : ∀ k ∈ ks, k < ws.length := fun k m => by rw [hl]; exact k4 k m
    have k0 : ks ≠ [] := fun e => by rw [e] at k1; simp at k1
    obtain ⟨n, n0, n1, en⟩ := wide_int h hx kw k2 k0
    have vp := sumV_pos h.p kw k0
    have wn : 0 ≤ sumK u ks := (sumK_bd (B := tot u) hp (tot_ge hp) ks k4).1
    have ln : 0 ≤ sumK u ks / sumK ws ks := by
      rw [Rat.div_def]
      exact Rat.mul_nonneg wn (inv_nn vp)
    refine ⟨n, n0, n1, ?_, ?_, ?_, putK_len _ _ _ _⟩
    · refine putK_all _ ws (fun q m => (hd q m).mono ⟨n, rfl⟩) fun k m => ?_
      have ww := (h.sz hx (getD_memQ (kw k m))).2.2.1
      obtain ⟨i, ei⟩ := ww
      have : sumK u ks / sumK ws ks * ws.getD k 0 = sumK u ks * (ws.getD k 0 / sumK ws ks) := by
        rw [Rat.div_def, Rat.div_def]; grind
      rw [this]
      refine (sumK_dn hd ks).of_mul (i := i) ?_
      rw [← ei, ← en]
      have : sumK ws ks ≠ 0 := by grind
      grind
    · refine putK_all _ ws hp fun k m => ?_
      have := h.p _ (getD_memQ (kw k m))
      exact Rat.mul_nonneg ln (by grind)
    · have e : tot (stepW ws u (.op ks)) = tot u - sumK u ks + sumK u ks / sumK ws ks * sumK ws ks := tot_putK _ ws k3 k4
      rw [e]
      have : sumK ws ks ≠ 0 := by grind
      have : sumK u ks / sumK ws ks * sumK ws ks = sumK u ks := by grind
      rw [this]
      show _ ≤ tot u + ((0 : Int) : Rat)
      rw [Rat.intCast_zero]
      grind
  | pr k a =>
    obtain ⟨k1, k2, k3⟩ := he
    have a0 : (0 : Rat) ≤ (a : Rat) := by
      have := Rat.intCast_le_intCast.mpr k2
      rwa [Rat.intCast_zero] at this
    have a1 : (a : Rat) ≤ 1000 := Rat.intCast_le_intCast.mpr k3
    have m0 := hp _ (getD_memQ k1)
    refine ⟨1, by decide, by decide, ?_, ?_, ?_, by simp [stepW]⟩
    · rw [Nat.mul_one]
      exact set_all hd ((getD_dn hd k1).add (Dn.int _ _))
    · exact set_all hp (by grind)
    · have e : tot (stepW ws u (.pr k a)) = _ := tot_set _ k1
      rw [e]
      show _ ≤ tot u + (a : Rat)
      grind
  | sc k p =>
    obtain ⟨k1, k2⟩ := he
    obtain ⟨p0, p1, p2⟩ := k2
    have m0 := hp _ (getD_memQ k1)
    have z1 : 0 ≤ u.getD k 0 * p := Rat.mul_nonneg m0 p0
    have z2 : u.getD k 0 * p ≤ u.getD k 0 * 1 := Rat.mul_le_mul_of_nonneg_left p1 m0
    refine ⟨p.den, p.den_pos, by omega, ?_, ?_, ?_, by simp [stepW]⟩
    · exact set_all (fun q m => (hd q m).mono ⟨p.den, rfl⟩) (((getD_dn hd k1).mono ⟨p.den, rfl⟩).add (part_dn (getD_dn hd k1)).neg)
    · exact set_all hp (by grind)
    · have e : tot (stepW ws u (.sc k p)) = _ := tot_set _ k1
      rw [e]
      show _ ≤ tot u + ((0 : Int) : Rat)
      rw [Rat.intCast_zero]
      grind
  | mv i j p =>
    obtain ⟨k1, k2, k3, k4⟩ := he
    obtain ⟨p0, p1, p2⟩ := k4
    have m0 := hp _ (getD_memQ k1)
    have m1 := hp _ (getD_memQ k2)
    have z1 : 0 ≤ u.getD i 0 * p := Rat.mul_nonneg m0 p0
    have z2 : u.getD i 0 * p ≤ u.getD i 0 * 1 := Rat.mul_le_mul_of_nonneg_left p1 m0
    refine ⟨p.den, p.den_pos, by omega, ?_, ?_, ?_, by simp [stepW]⟩
    · exact set_all (set_all (fun q m => (hd q m).mono ⟨p.den, rfl⟩) (((getD_dn hd k1).mono ⟨p.den, rfl⟩).add (part_dn (getD_dn hd k1)).neg)) (((getD_dn hd k2).mono ⟨p.den, rfl⟩).add (part_dn (getD_dn hd k1)))
    · exact set_all (set_all hp (by grind)) (by grind)
    · have e : tot (stepW ws u (.mv i j p)) = _ := tot_set (u := u.set i (u.getD i 0 + -(u.getD i 0 * p))) _ (by simpa using k2)
      rw [e, tot_set _ k1, getD_setne k3]
      show _ ≤ tot u + ((0 : Int) : Rat)
      rw [Rat.intCast_zero]
      grind

/-! ### the waters behind each beginning -/
def amts (vs : List Vat) : List Rat := vs.map fun v => (v.a : Rat)
def putN (vs : List Vat) (ds : List Deed) : Int := (vs.map (·.a)).sum + (ds.map poured).sum
theorem tot_amts (vs : List Vat) : tot (amts vs) = (((vs.map (·.a)).sum : Int) : Rat) := by
  unfold amts
  induction vs with
  | nil => simp [tot]
  | cons v vs ih =>
    simp only [List.map_cons, tot, List.sum_cons, Rat.intCast_add]
    rw [ih]
theorem sum_le {l : List Int} {B : Int} (h : ∀ a ∈ l, 0 ≤ a ∧ a ≤ B) : 0 ≤ l.sum ∧ l.sum ≤ B * l.length := by
  induction l with
  | nil => simp
  | cons a l ih =>
    obtain ⟨h1, h2⟩ := ih fun b m => h b (List.mem_cons_of_mem _ m)
    obtain ⟨h3, h4⟩ := h a List.mem_cons_self
    rw [List.sum_cons, List.length_cons]
    have : B * ((l.length + 1 : Nat) : Int) = B * l.length + B := by rw [Int.natCast_add, Int.mul_add]; simp
    rw [this]
    omega
theorem poured_le {n : Nat} {e : Deed} (h : e.ok n) : 0 ≤ poured e ∧ poured e ≤ 1000 := by
  cases e <;> simp [poured]
  exact h.2
theorem putN_le {vs : List Vat} (h : VatsOk vs) {ds : List Deed} (hn : ds.length ≤ 60) (hd : ∀ e ∈ ds, e.ok vs.length) : 0 ≤ putN vs ds ∧ putN vs ds ≤ 80000 := by
  obtain ⟨a1, a2⟩ := sum_le (l := vs.map (·.a)) (B := 1000) fun a m => by
    obtain ⟨v, mv, rfl⟩ := List.mem_map.mp m
    exact ⟨(h.v v mv).1, (h.v v mv).2.1⟩
  obtain ⟨b1, b2⟩ := sum_le (l := ds.map poured) (B := 1000) fun a m => by
    obtain ⟨e, me, rfl⟩ := List.mem_map.mp m
    exact poured_le (hd e me)
  have := h.n
  rw [List.length_map] at a2 b2
  unfold putN
  omega
theorem runW_snoc (ws u : List Rat) (ds : List Deed) (e : Deed) : runW ws u (ds ++ [e]) = stepW ws (runW ws u ds) e := by simp [runW]
structure Ran (vs : List Vat) (x : Rat) (ds : List Deed) (D : Nat) : Prop where
  d0 : 0 < D
  sD : Sm (66 * ds.length + 1) (D : Int)
  d : ∀ q ∈ runW (vs.map (wid x)) (amts vs) ds, Dn D q
  p : ∀ q ∈ runW (vs.map (wid x)) (amts vs) ds, 0 ≤ q
  t : tot (runW (vs.map (wid x)) (amts vs) ds) ≤ (putN vs ds : Rat)
  l : (runW (vs.map (wid x)) (amts vs) ds).length = vs.length
theorem wd_of {vs : List Vat} (h : VatsOk vs) {x : Rat} (hx : 0 < x) : Wd x (vs.map (wid x)) := by
  have key : ∀ q ∈ vs.map (wid x), 0 < q ∧ (q = x ∨ ∃ i : Int, q = (i : Rat) ∧ 1 ≤ i ∧ i ≤ 1000) := fun q m => by
    obtain ⟨v, mv, rfl⟩ := List.mem_map.mp m
    have hv := (h.v v mv).2.2
    unfold wid
    split
    · exact ⟨hx, .inl rfl⟩
    · next i e =>
      obtain ⟨h1, h2⟩ := hv i e
      have : ((0 : Int) : Rat) < (i : Rat) := Rat.intCast_lt_intCast.mpr (by omega)
      rw [Rat.intCast_zero] at this
      exact ⟨this, .inr ⟨i, rfl, h1, h2⟩⟩
  exact ⟨fun q m => (key q m).1, fun q m => (key q m).2⟩
theorem ran_ok {vs : List Vat} (h : VatsOk vs) {x : Rat} (hx : 0 < x) (qx : Qb 51 x) : ∀ (n : Nat) (ds : List Deed), ds.length = n → (∀ e ∈ ds, e.ok vs.length) → ∃ D, Ran vs x ds D
  | 0, ds, hn, _ => by
    have : ds = [] := List.length_eq_zero_iff.mp hn
    subst this
    refine ⟨1, by decide, smc, ?_, ?_, ?_, ?_⟩
    · intro q m
      obtain ⟨v, mv, rfl⟩ := List.mem_map.mp m
      exact Dn.int _ _
    · intro q m
      obtain ⟨v, mv, rfl⟩ := List.mem_map.mp m
      have := Rat.intCast_le_intCast.mpr (h.v v mv).1
      rwa [Rat.intCast_zero] at this
    · show tot (amts vs) ≤ _
      rw [tot_amts]
      refine Rat.intCast_le_intCast.mpr ?_
      simp [putN]
    · simp [runW, amts]
  | n + 1, ds, hn, hd => by
    have ne : ds ≠ [] := fun e => by rw [e] at hn; simp at hn
    obtain ⟨es, e, rfl⟩ : ∃ es e, ds = es ++ [e] := ⟨ds.dropLast, ds.getLast ne, (List.dropLast_concat_getLast ne).symm⟩
    obtain ⟨D, r⟩ := ran_ok h hx qx n es (by simpa using hn) fun a m => hd a (List.mem_append_left _ m)
    have lw : (vs.map (wid x)).length = (runW (vs.map (wid x)) (amts vs) es).length := by rw [r.l]; simp
    obtain ⟨m, g⟩ := step_ok (e := e) (wd_of h hx) qx lw (by rw [r.l]; exact hd e (by simp)) r.d r.p
    refine ⟨D * m, Nat.mul_pos r.d0 g.m0, ?_, ?_, ?_, ?_, ?_⟩
    · have sm : Sm 66 (m : Int) := by unfold Sm; simpa using g.m1
      rw [Int.natCast_mul]
      exact (r.sD.mul sm).mono (by simp; omega)
    · rw [runW_snoc]; exact g.d
    · rw [runW_snoc]; exact g.p
    · rw [runW_snoc]
      refine Rat.le_trans g.t ?_
      have e2 : putN vs (es ++ [e]) = putN vs es + poured e := by
        simp only [putN, List.map_append, List.map_cons, List.map_nil, List.sum_append, List.sum_cons, List.sum_nil]
        omega
      rw [e2, Rat.intCast_add]
      have := r.t
      grind
    · rw [runW_snoc, g.l, r.l]
theorem Ran.wz {vs : List Vat} {x : Rat} {ds : List Deed} {D : Nat} (r : Ran vs x ds D) (h : VatsOk vs) (hn : ds.length ≤ 60) (hd : ∀ e ∈ ds, e.ok vs.length) : Wz D (runW (vs.map (wid x)) (amts vs) ds) ∧ Sm 4000 (D : Int) := by
  refine ⟨⟨r.d, r.p, fun q m => ?_⟩, r.sD.mono (by omega)⟩
  have h1 := tot_ge r.p q m
  have h2 := r.t
  have h3 : ((putN vs ds : Int) : Rat) ≤ ((80000 : Int) : Rat) := Rat.intCast_le_intCast.mpr (putN_le h hn hd).2
  have h4 : ((80000 : Int) : Rat) = (80000 : Rat) := rfl
  grind
/-! ### levels and waters -/
def levs (ws u : List Rat) : List Rat := List.zipWith (fun a b => a / b) u ws
theorem levs_len {ws u : List Rat} (h : ws.length = u.length) : (levs ws u).length = u.length := by simp [levs, h]
theorem levs_get {ws u : List Rat} (h : ws.length = u.length) {k : Nat} (hk : k < u.length) : (levs ws u).getD k 0 = u.getD k 0 / ws.getD k 0 := by
  simp only [levs, List.getD_eq_getElem?_getD, List.getElem?_zipWith]
  rw [List.getElem?_eq_getElem hk, List.getElem?_eq_getElem (show k < ws.length by omega)]
  rfl
theorem back_water {ws u : List Rat} (h : ws.length = u.length) (hp : ∀ q ∈ ws, 0 < q) {k : Nat} (hk : k < u.length) : (levs ws u).getD k 0 * ws.getD k 0 = u.getD k 0 := by
  rw [levs_get h hk]
  have := hp _ (getD_memQ (show k < ws.length by omega))
  have : ws.getD k 0 ≠ 0 := by grind
  grind
/-! ### an opened valve -/
theorem mean_lo {L : Rat} {ws u : List Rat} : ∀ {ks : List Nat}, (∀ k ∈ ks, L * ws.getD k 0 ≤ u.getD k 0) → L * sumK ws ks ≤ sumK u ks ∧ (sumK u ks ≤ L * sumK ws ks → ∀ k ∈ ks, u.getD k 0 = L * ws.getD k 0)
  | [], _ => ⟨by show L * 0 ≤ 0; grind, fun _ k m => by cases m⟩
  | k :: ks, h => by
    obtain ⟨h1, h2⟩ := mean_lo (ks := ks) fun j m => h j (List.mem_cons_of_mem _ m)
    have h3 := h k List.mem_cons_self
    simp only [sumK]
    refine ⟨by grind, fun z j m => ?_⟩
    rcases List.mem_cons.mp m with rfl | m
    · grind
    · exact h2 (by grind) j m
theorem mean_hi {L : Rat} {ws u : List Rat} : ∀ {ks : List Nat}, (∀ k ∈ ks, u.getD k 0 ≤ L * ws.getD k 0) → sumK u ks ≤ L * sumK ws ks ∧ (L * sumK ws ks ≤ sumK u ks → ∀ k ∈ ks, u.getD k 0 = L * ws.getD k 0)
  | [], _ => ⟨by show 0 ≤ L * 0; grind, fun _ k m => by cases m⟩
  | k :: ks, h => by
    obtain ⟨h1, h2⟩ := mean_hi (ks := ks) fun j m => h j (List.mem_cons_of_mem _ m)
    have h3 := h k List.mem_cons_self
    simp only [sumK]
    refine ⟨by grind, fun z j m => ?_⟩
    rcases List.mem_cons.mp m with rfl | m
    · grind
    · exact h2 (by grind) j m
theorem tot_take {u : List Rat} {i : Nat} (h : i < u.length) : tot (u.take (i + 1)) = tot (u.take i) + u.getD i 0 := by
  induction u generalizing i with
  | nil => simp at h
  | cons a u ih =>
    cases i with
    | zero => simp [tot, Rat.add_comm]
    | succ i =>
      simp only [List.take_succ_cons, tot, List.getD_cons_succ]
      rw [ih (by simpa using h), Rat.add_assoc]
/-! ### small laws for the walks -/
def amtD : DD → SV
  | .tup [_, .int a] => .dat (.tup [.int a, .int 1])
  | _ => .dat .non
theorem amtD_all (vs : List Vat) : (vs.map Vat.d).map amtD = (amts vs).map fun q => SV.dat (rT q) := by
  unfold amts
  rw [List.map_map, List.map_map]
  refine List.map_congr_left fun v _ => ?_
  obtain ⟨w, a⟩ := v
  show SV.dat (.tup [.int a, .int 1]) = SV.dat (rT (a : Rat))
  rw [rT_int]
theorem amts_get {vs : List Vat} : (amts vs).length = vs.length := by simp [amts]
theorem prt_of {a b : Int} (h0 : 0 ≤ a) (h1 : a ≤ b) (hb : 1 ≤ b) (h2 : b ≤ 1000) : Prt (Rat.divInt a b) := by
  have bp : (0 : Rat) < (b : Rat) := by
    have := Rat.intCast_lt_intCast.mpr (show (0 : Int) < b by omega)
    rwa [Rat.intCast_zero] at this
  have a0 : (0 : Rat) ≤ (a : Rat) := by
    have := Rat.intCast_le_intCast.mpr h0
    rwa [Rat.intCast_zero] at this
  have ab : (a : Rat) ≤ (b : Rat) := Rat.intCast_le_intCast.mpr h1
  have i0 := inv_nn bp
  have nz : (b : Rat) ≠ 0 := by grind
  rw [Rat.divInt_eq_div]
  refine ⟨?_, ?_, ?_⟩
  · rw [Rat.div_def]
    exact Rat.mul_nonneg a0 i0
  · rw [Rat.div_def]
    have := Rat.mul_le_mul_of_nonneg_right ab i0
    have e : (b : Rat) * (b : Rat)⁻¹ = 1 := by grind
    rw [e] at this
    exact this
  · rw [← Rat.divInt_eq_div, Rat.den_divInt, if_neg (by omega)]
    have := Nat.div_le_self b.natAbs (Int.gcd b a)
    omega
theorem wrapM {n t m : Nat} (h : n < m) (h2 : t + 1 < m) : (n + 1 + t) % m ≠ n := by
  by_cases z : n + 1 + t < m
  · rw [Nat.mod_eq_of_lt z]; omega
  · rw [Nat.mod_eq_sub_mod (by omega), Nat.mod_eq_of_lt (by omega)]; omega
theorem at4i (a b c d : Int) {n : Int} (h0 : 0 ≤ n) (h1 : n < 4) : ∃ v, atI [DD.int a, .int b, .int c, .int d] n = some (.int v) ∧ v ∈ [a, b, c, d] := by
  have : n = 0 ∨ n = 1 ∨ n = 2 ∨ n = 3 := by omega
  rcases this with rfl | rfl | rfl | rfl
  · exact ⟨a, rfl, by simp⟩
  · exact ⟨b, rfl, by simp⟩
  · exact ⟨c, rfl, by simp⟩
  · exact ⟨d, rfl, by simp⟩
theorem divI_pos {a b : Int} (h0 : 0 < a) (hb : 0 < b) : 0 < Rat.divInt a b := by
  have bp : (0 : Rat) < (b : Rat) := by
    have := Rat.intCast_lt_intCast.mpr hb
    rwa [Rat.intCast_zero] at this
  have a0 : (0 : Rat) < (a : Rat) := by
    have := Rat.intCast_lt_intCast.mpr h0
    rwa [Rat.intCast_zero] at this
  rw [Rat.divInt_eq_div, Rat.div_def]
  have i0 := inv_nn bp
  have nz : (b : Rat) ≠ 0 := by grind
  refine Rat.mul_pos a0 ?_
  rcases Rat.le_iff_lt_or_eq.mp i0 with h | h
  · exact h
  · have e : (b : Rat) * (b : Rat)⁻¹ = 1 := by grind
    rw [← h] at e
    rw [Rat.mul_zero] at e
    exact absurd e (by decide +kernel)
def atQ (u : List Rat) : DD → SV
  | .int k => .dat (rT (u.getD k.toNat 0))
  | _ => .dat .non
theorem atQ_all (u : List Rat) {n : Nat} (h : n = u.length) : (rgD 0 1 n).map (atQ u) = u.map fun q => SV.dat (rT q) := by
  subst h
  unfold rgD
  rw [List.map_map]
  refine List.ext_getElem (by simp) fun i h1 h2 => ?_
  have hi : i < u.length := by simpa using h2
  simp [atQ, List.getD_eq_getElem?_getD, hi]
theorem pick3 {n : Int} (h0 : 0 ≤ n) (h1 : n < 3) : n = 0 ∨ n = 1 ∨ n = 2 := by omega
theorem Deed.word {e : Deed} (h : ∀ i j, e ≠ .un i j) : ∃ z r, e.d = .tup (.str z :: r) ∧ ¬ z = Str.ofString "unless" := by
  cases e with
  | op ks => exact ⟨_, _, rfl, by simp⟩
  | pr k a => exact ⟨_, _, rfl, by simp⟩
  | sc k p => exact ⟨_, _, rfl, by simp⟩
  | mv i j p => exact ⟨_, _, rfl, by simp⟩
  | un i j => exact absurd rfl (h i j)
theorem two_le {ks : List Nat} {i j : Nat} (hi : i ∈ ks) (hj : j ∈ ks) (h : i ≠ j) : 2 ≤ ks.length := by
  match ks with
  | [] => cases hi
  | [a] =>
    rw [List.mem_singleton] at hi hj
    exact absurd (hi.trans hj.symm) h
  | a :: b :: r => simp
theorem rise_snoc {ks : List Nat} {t : Nat} (h : ks.Pairwise (· < ·)) (l : ∀ k ∈ ks, k < t) : (ks ++ [t]).Pairwise (· < ·) :=
  List.pairwise_append.mpr ⟨h, List.pairwise_singleton _ _, fun a ha b hb => by rw [List.mem_singleton] at hb; subst hb; exact l a ha⟩
/-! ### what a step owes -/
theorem rats_ok (l : List Rat) : DD.pures (l.map rT) = true ∧ PyData.canLayAll0 (DD.pys (l.map rT)) = true ∧ PyData.depthAll (DD.pys (l.map rT)) ≤ 1 := by
  induction l with
  | nil => simp [DD.pures, DD.pys, PyData.canLayAll0, PyData.depthAll]
  | cons x l ih =>
    obtain ⟨h1, h2, h3⟩ := ih
    simp [rT, DD.pures, DD.pys, PyData.canLayAll0, PyData.depthAll, DD.pure, DD.py, PyData.canLay0, PyData.depth, h1, h2]
    omega
theorem okD_rats (l : List Rat) : okD (.lst (l.map rT)) = true := by
  obtain ⟨h1, h2, h3⟩ := rats_ok l
  simp [okD, DD.pure, DD.py, SeqAt.shaped, PyData.canLay0, PyData.depth, h1, h2]
  omega
theorem eqD_ratT (q : Rat) : eqD (rT q) (rT q) = true := (eqD_tint (l := [q.num, (q.den : Int)]) (m := [q.num, (q.den : Int)])).trans (by simp)
theorem okD_ratT (q : Rat) : okD (rT q) = true := okD_tint (l := [q.num, (q.den : Int)])
theorem eqD_rats (l : List Rat) : eqD (.lst (l.map rT)) (.lst (l.map rT)) = true := by
  induction l with
  | nil => exact (eqD_lint (l := []) (m := [])).trans (by simp)
  | cons x l ih =>
    have h1 := eqD_ratT x
    simp only [eqD, DD.py, PyData.eqv] at ih h1 ⊢
    simp only [List.map_cons, DD.pys, PyData.eqvAll, ih, h1, Bool.and_true]
theorem eqD_niL (ds : List DD) : eqD (.lst ds) (.lst []) = decide (ds = []) := by
  cases ds <;> simp [eqD, DD.py, DD.pys, PyData.eqv, PyData.eqvAll]
theorem qb_sg {D k m : Nat} {y : Rat} (hd : Dn D y) (d0 : 0 < D) (sD : Sm k (D : Int)) (y0 : -((2 ^ m : Nat) : Rat) ≤ y) (hy : y ≤ ((2 ^ m : Nat) : Rat)) : Qb (k + m + 1) y ∧ Sm k (y.den : Int) := by
  by_cases z : 0 ≤ y
  · exact qb_of hd d0 sD z hy
  · obtain ⟨h1, h2⟩ := qb_of (m := m) hd.neg d0 sD (by grind) (by grind)
    have e : - -y = y := by grind
    exact ⟨by rw [← e]; exact h1.neg, by rw [← e]; exact h2⟩
theorem rT_inv {w : Rat} (h : 0 < w) : DD.tup [.int (w.den : Int), .int w.num] = rT w⁻¹ := by
  have n0 := num_pos h
  have e : w⁻¹ = Rat.divInt (w.den : Int) w.num := by
    have h1 := rat_dn w
    have d0 : (w.den : Rat) ≠ 0 := by
      have := rden w
      have h2 : (((w.den : Int)) : Rat) ≠ 0 := by exact_mod_cast this
      exact h2
    rw [Rat.divInt_eq_div, ncast, ← h1]
    have : w ≠ 0 := by grind
    grind
  have g : Int.gcd (w.den : Int) w.num = 1 := by
    have := rat_cop w
    rw [Int.gcd_comm]; exact this
  have g2 : Int.gcd w.num (w.den : Int) = 1 := by rw [Int.gcd_comm]; exact g
  unfold rT
  rw [e, Rat.num_divInt, Rat.den_divInt, if_neg (by omega)]
  have sg : w.num.sign = 1 := Int.sign_eq_one_of_pos n0
  rw [sg, g2]
  simp
  omega
theorem inv_sz {w : Rat} {k : Nat} (h : Qb k w) (h0 : 0 < w) : Qb k w⁻¹ := by
  have e := rT_inv h0
  unfold rT at e
  simp only [DD.tup.injEq, List.cons.injEq, DD.int.injEq, and_true] at e
  exact ⟨by rw [← e.1]; exact h.d, by rw [← e.2]; exact h.n⟩
def inK (ks : List Nat) (i : Nat) : List Nat := (List.range i).filter fun k => decide (k ∈ ks)
theorem inK_yes {ks : List Nat} {i : Nat} (h : i ∈ ks) : inK ks (i + 1) = inK ks i ++ [i] := by simp [inK, List.range_succ, h]
theorem inK_no {ks : List Nat} {i : Nat} (h : i ∉ ks) : inK ks (i + 1) = inK ks i := by simp [inK, List.range_succ, h]
theorem inK_mem {ks : List Nat} {i k : Nat} : k ∈ inK ks i ↔ k < i ∧ k ∈ ks := by simp [inK]
def qOf : DD → Rat
  | .tup [.int a, .int b] => Rat.divInt a b
  | _ => 0
theorem qOf_rT (q : Rat) : qOf (rT q) = q := by
  show Rat.divInt q.num (q.den : Int) = q
  exact Rat.num_divInt_den q
theorem lev_ge {L a w : Rat} (h : 0 < w) : ¬ a * w⁻¹ < L ↔ L * w ≤ a := by
  have i0 := inv_nn h
  have e : w * w⁻¹ = 1 := by grind
  constructor
  · intro z
    have h1 := Rat.mul_le_mul_of_nonneg_right (show L ≤ a * w⁻¹ by grind) (show 0 ≤ w by grind)
    have : a * w⁻¹ * w = a := by grind
    rw [this] at h1
    exact h1
  · intro z
    have h1 := Rat.mul_le_mul_of_nonneg_right z i0
    have : L * w * w⁻¹ = L := by grind
    rw [this] at h1
    grind
theorem lev_le {L a w : Rat} (h : 0 < w) : ¬ L < a * w⁻¹ ↔ a ≤ L * w := by
  have i0 := inv_nn h
  have e : w * w⁻¹ = 1 := by grind
  constructor
  · intro z
    have h1 := Rat.mul_le_mul_of_nonneg_right (show a * w⁻¹ ≤ L by grind) (show 0 ≤ w by grind)
    have : a * w⁻¹ * w = a := by grind
    rw [this] at h1
    exact h1
  · intro z
    have h1 := Rat.mul_le_mul_of_nonneg_right z i0
    have : L * w * w⁻¹ = L := by grind
    rw [this] at h1
    grind
def befs (ws u : List Rat) (ks : List Nat) (i : Nat) : List Rat := (inK ks i).map fun k => u.getD k 0 * (ws.getD k 0)⁻¹
theorem ends_even {L : Rat} {ws u : List Rat} {ks : List Nat} (hl : ws.length = u.length) (hp : ∀ q ∈ ws, 0 < q) (hk : ∀ k ∈ ks, k < u.length) (hL : L * sumK ws ks = sumK u ks) :
    (befs ws u ks u.length).filter (fun q => decide (q < L)) = [] ↔ (befs ws u ks u.length).filter (fun q => decide (L < q)) = [] := by
  have wp : ∀ k ∈ ks, 0 < ws.getD k 0 := fun k m => hp _ (getD_memQ (by rw [hl]; exact hk k m))
  have a1 : (befs ws u ks u.length).filter (fun q => decide (q < L)) = [] ↔ ∀ k ∈ ks, L * ws.getD k 0 ≤ u.getD k 0 := by
    rw [List.filter_eq_nil_iff]
    constructor
    · intro h k m
      have := h (u.getD k 0 * (ws.getD k 0)⁻¹) (List.mem_map.mpr ⟨k, inK_mem.mpr ⟨hk k m, m⟩, rfl⟩)
      exact (lev_ge (wp k m)).mp (by simpa using this)
    · intro h q m
      obtain ⟨k, mk, rfl⟩ := List.mem_map.mp m
      have := inK_mem.mp mk
      have := (lev_ge (wp k this.2)).mpr (h k this.2)
      simpa using this
  have a2 : (befs ws u ks u.length).filter (fun q => decide (L < q)) = [] ↔ ∀ k ∈ ks, u.getD k 0 ≤ L * ws.getD k 0 := by
    rw [List.filter_eq_nil_iff]
    constructor
    · intro h k m
      have := h (u.getD k 0 * (ws.getD k 0)⁻¹) (List.mem_map.mpr ⟨k, inK_mem.mpr ⟨hk k m, m⟩, rfl⟩)
      exact (lev_le (wp k m)).mp (by simpa using this)
    · intro h q m
      obtain ⟨k, mk, rfl⟩ := List.mem_map.mp m
      have := inK_mem.mp mk
      have := (lev_le (wp k this.2)).mpr (h k this.2)
      simpa using this
  rw [a1, a2]
  constructor
  · intro h k m
    rw [(mean_lo h).2 (by rw [hL]; exact Rat.le_refl) k m]
    exact Rat.le_refl
  · intro h k m
    rw [(mean_hi h).2 (by rw [hL]; exact Rat.le_refl) k m]
    exact Rat.le_refl
theorem tot_bd {u : List Rat} {B : Rat} (h0 : ∀ q ∈ u, 0 ≤ q) (hB : ∀ q ∈ u, q ≤ B) : 0 ≤ tot u ∧ tot u ≤ (u.length : Rat) * B := by
  refine ⟨tot_nn h0, ?_⟩
  induction u with
  | nil => simp [tot]
  | cons a u ih =>
    have h1 := ih (fun q m => h0 q (List.mem_cons_of_mem _ m)) fun q m => hB q (List.mem_cons_of_mem _ m)
    have h2 := hB a List.mem_cons_self
    have e : (((a :: u).length : Nat) : Rat) = (u.length : Rat) + 1 := by
      rw [List.length_cons]; exact_mod_cast rfl
    rw [e, Rat.add_mul, Rat.one_mul]
    simp only [tot]
    grind
theorem tot_dn {D : Nat} {u : List Rat} (h : ∀ q ∈ u, Dn D q) : Dn D (tot u) := by
  induction u with
  | nil => simpa [tot] using Dn.int D 0
  | cons a u ih => exact (h a List.mem_cons_self).add (ih fun q m => h q (List.mem_cons_of_mem _ m))
theorem take_sz {E : Nat} {u : List Rat} (hu : Wz E u) (e0 : 0 < E) (sE : Sm 4000 (E : Int)) (lu : u.length ≤ 20) (i : Nat) : Qb 4030 (tot (u.take i)) ∧ Sm 4000 ((tot (u.take i)).den : Int) := by
  obtain ⟨h1, h2⟩ := tot_bd (u := u.take i) (B := 100000) (fun q m => hu.p q (List.mem_of_mem_take m)) fun q m => hu.b q (List.mem_of_mem_take m)
  obtain ⟨c1, c2⟩ := qb_of (m := 22) (tot_dn fun q m => hu.d q (List.mem_of_mem_take m)) e0 sE h1 (Rat.le_trans h2 (b20 (m := 17) (by simp; omega) (by decide +kernel) b17))
  exact ⟨c1.mono (by decide), c2⟩
/-- the sum of what went so far -/
theorem went_sz {E : Nat} {u v : List Rat} (hu : Wz E u) (hv : Wz E v) (e0 : 0 < E) (sE : Sm 4000 (E : Int)) (lu : u.length ≤ 20) (lv : v.length ≤ 20) (i : Nat) : Qb 4030 (tot (u.take i) + -tot (v.take i)) ∧ Sm 4000 ((tot (u.take i) + -tot (v.take i)).den : Int) := by
  have key : ∀ {u : List Rat}, Wz E u → u.length ≤ 20 → 0 ≤ tot (u.take i) ∧ tot (u.take i) ≤ ((2 ^ 22 : Nat) : Rat) ∧ Dn E (tot (u.take i)) := fun {u} hu lu => by
    obtain ⟨h1, h2⟩ := tot_bd (u := u.take i) (B := 100000) (fun q m => hu.p q (List.mem_of_mem_take m)) fun q m => hu.b q (List.mem_of_mem_take m)
    exact ⟨h1, Rat.le_trans h2 (b20 (m := 17) (by simp; omega) (by decide +kernel) b17), tot_dn fun q m => hu.d q (List.mem_of_mem_take m)⟩
  obtain ⟨a1, a2, a3⟩ := key hu lu
  obtain ⟨b1, b2, b3⟩ := key hv lv
  obtain ⟨c1, c2⟩ := qb_sg (m := 22) (a3.add b3.neg) e0 sE (by grind) (by grind)
  exact ⟨c1.mono (by decide), c2⟩
theorem sub_sz {E : Nat} {a b : Rat} (ha : Dn E a ∧ 0 ≤ a ∧ a ≤ 100000) (hb : Dn E b ∧ 0 ≤ b ∧ b ≤ 100000) (e0 : 0 < E) (sE : Sm 4000 (E : Int)) : Qb 4030 (a + -b) ∧ Sm 4000 ((a + -b).den : Int) := by
  obtain ⟨c1, c2⟩ := qb_sg (m := 17) (ha.1.add hb.1.neg) e0 sE (by have := b17; grind) (by have := b17; grind)
  exact ⟨c1.mono (by decide), c2⟩
theorem nI_mem {ks : List Nat} {i : Nat} : (i : Int) ∈ nI ks ↔ i ∈ ks := by
  unfold nI
  rw [List.mem_map]
  constructor
  · rintro ⟨a, m, e⟩
    have : a = i := by omega
    rw [← this]; exact m
  · intro m
    exact ⟨i, m, rfl⟩
theorem filt_q (bs : List Rat) (L : Rat) : ((bs.map rT).filter fun d => decide (qOf d < L)).map SV.dat = (bs.filter fun q => decide (q < L)).map fun q => SV.dat (rT q) := by
  rw [List.filter_map, List.map_map]
  simp only [Function.comp_def, qOf_rT]
theorem filt_q2 (bs : List Rat) (L : Rat) : ((bs.map rT).filter fun d => decide (L < qOf d)).map SV.dat = (bs.filter fun q => decide (L < q)).map fun q => SV.dat (rT q) := by
  rw [List.filter_map, List.map_map]
  simp only [Function.comp_def, qOf_rT]
theorem eqD_bls (a b : Bool) : eqD (.bl a) (.bl b) = decide (a = b) := by
  cases a <;> cases b <;> decide +kernel
theorem if_to {c : FT} {f g : FS} {D : DEnds} {ρ : Rho} (ρ1 : Rho) (b : Bool) (hc : ∀ Q : Bool → Rho → Prop, Q b ρ1 → c ρ Q) (h : if b = true then f D ρ1 else g D ρ1) : fIf c f g D ρ := by
  unfold fIf
  exact hc _ h
theorem inK_ne {ks : List Nat} {n : Nat} (h : ks ≠ []) (hk : ∀ k ∈ ks, k < n) : inK ks n ≠ [] := by
  cases ks with
  | nil => exact absurd rfl h
  | cons a r =>
    intro z
    have : a ∈ inK (a :: r) n := inK_mem.mpr ⟨hk a List.mem_cons_self, List.mem_cons_self⟩
    rw [z] at this
    cases this
theorem at_first {js : List Nat} (h : js ≠ []) (L : Rat) : atI (List.map (rT ∘ fun _ => L) js) 0 = some (rT L) := by
  cases js with
  | nil => exact absurd rfl h
  | cons a r =>
    show atI _ ((0 : Nat) : Int) = _
    rw [atI_nat (by simp)]
    rfl
def keepU : DD → Bool
  | .tup (.str z :: _) => !decide (z = Str.ofString "unless")
  | _ => false
def Deed.keep (e : Deed) : Bool := keepU e.d
theorem keepU_all (fs : List Deed) : (List.filter keepU (fs.map Deed.d)).map SV.dat = ((fs.filter Deed.keep).map Deed.d).map SV.dat := by
  rw [List.filter_map]
  rfl
theorem keep_ne {e : Deed} (h : e.keep = true) (i j : Nat) : e ≠ .un i j := by
  intro z
  subst z
  simp [Deed.keep, keepU, Deed.d] at h
theorem cut30 {α : Type} {l : List α} : DL.cutD l none (some 30) = l.take 30 := cut_take (n := 30)
theorem ob_data (C : Addr) (vs : List Vat) (ds : List Deed) : (SV.ob C (datF [("kept_tanks", .tup (vs.map Vat.d)), ("kept_steps", .tup (ds.map Deed.d))])).data = sObj C vs ds := by
  simp [sObj, datF, SV.data, SV.dataF]
theorem deed_at {ds : List Deed} {j : Nat} {e : Deed} (h : ds[j]? = some e) : atI (ds.map Deed.d) (j : Int) = some e.d := by
  have hl := (List.getElem?_eq_some_iff.mp h).1
  rw [atI_map, DL.atI_nat hl]
  have := (List.getElem?_eq_some_iff.mp h).2
  rw [this]
  rfl
end DL

namespace My
open PySem PySem.Spec PyProof.Rows L2 DL
theorem gcd_abs (a b : Int) : Int.gcd (if a < 0 then -a else a) (if b < 0 then -b else b) = Int.gcd a b := by split <;> split <;> simp
theorem fmod_lt (x : Int) {y : Int} (h : 0 ≤ y) (z : y ≠ 0) : 0 ≤ x.fmod y ∧ (x.fmod y).toNat < y.toNat := by
  rw [Int.fmod_eq_emod_of_nonneg _ h]
  have := Int.emod_nonneg x z
  have := Int.emod_lt_of_pos x (show 0 < y by omega)
  omega
theorem gcd_fmod {x y : Int} (h0 : 0 ≤ x) (h : 0 ≤ y) : Int.gcd y (x.fmod y) = Int.gcd x y := by
  rw [Int.fmod_eq_emod_of_nonneg _ h]
  obtain ⟨m, rfl⟩ := Int.eq_ofNat_of_zero_le h0
  obtain ⟨n, rfl⟩ := Int.eq_ofNat_of_zero_le h
  rw [← Int.natCast_emod]
  show Nat.gcd n (m % n) = Nat.gcd m n
  rw [Nat.gcd_comm n, ← Nat.gcd_rec, Nat.gcd_comm]
theorem ret_go {fe : FE} {D : DEnds} {ρ : Rho} (R : SV → Rho → Prop) (hR : ∀ r ρ', R r ρ' → D.rt r ρ') (h : ∀ S : SV → Rho → Prop, (∀ r ρ', R r ρ' → S r ρ') → fe ρ S) : fRet fe D ρ := h _ hR
theorem for_go {fi : FI} {fg : FG} {f : FS} {D : DEnds} {ρ : Rho} (ds : List DD) (h : ∀ Q : List DD → Rho → Prop, Q ds ρ → fi ρ Q) (h2 : forB fg f ds D ρ) : fFor fi fg f D ρ := h _ h2
/-! the program's own -/
def cDiv : Ctr := fun as Q => ∃ a b : Int, as = [.dat (.int a), .dat (.int b)] ∧ Q (.dat (.int (Int.gcd a b))) as
def cShared : Ctr := fun as Q => ∃ a b : Int, as = [.dat (.int a), .dat (.int b)] ∧ Sm 9000 b ∧ Q (.dat (.int (Int.gcd a b))) as
def cRed : Ctr := fun as Q => ∃ a b : Int, as = [.dat (.int a), .dat (.int b)] ∧ b ≠ 0 ∧ Sm 8900 b ∧ Q (.dat (rT (Rat.divInt a b))) as
def cIsF : Ctr := fun as Q => ∃ q : Rat, as = [.dat (rT q)] ∧ Q (.dat (.bl true)) as
def cIsW : Ctr := fun as Q => ∃ q : Rat, as = [.dat (rT q)] ∧ 0 < q ∧ Q (.dat (.bl true)) as
def cChkW : Ctr := fun as Q => ∃ q : Rat, as = [.dat (rT q)] ∧ 0 < q ∧ Q (.dat .non) as
def cAddR : Ctr := fun as Q => ∃ x y : Rat, as = [.dat (rT x), .dat (rT y)] ∧ Qb 30000 x ∧ Qb 30000 y ∧ Sm 8900 ((x.den : Int) * (y.den : Int)) ∧ Q (.dat (rT (x + y))) as
def cMulR : Ctr := fun as Q => ∃ x y : Rat, as = [.dat (rT x), .dat (rT y)] ∧ Qb 30000 x ∧ Qb 30000 y ∧ Sm 8900 ((x.den : Int) * (y.den : Int)) ∧ Q (.dat (rT (x * y))) as
def cLess : Ctr := fun as Q => ∃ x y : Rat, as = [.dat (rT x), .dat (rT y)] ∧ Qb 30000 x ∧ Qb 30000 y ∧ Q (.dat (.bl (decide (x < y)))) as
def cmpQ (x y : Rat) : Int := if x < y then -1 else if y < x then 1 else 0
def cCmp : Ctr := fun as Q => ∃ x y : Rat, as = [.dat (rT x), .dat (rT y)] ∧ Qb 30000 x ∧ Qb 30000 y ∧ Q (.dat (.int (cmpQ x y))) as
theorem cmpQ_gt (x y : Rat) : (0 < cmpQ x y) = (y < x) := by
  unfold cmpQ
  by_cases h : x < y
  · rw [if_pos h]
    have : ¬ y < x := by grind
    simp [this]
  · rw [if_neg h]
    by_cases h2 : y < x
    · rw [if_pos h2]; simp [h2]
    · rw [if_neg h2]; simp [h2]
/-- purse, coin -/
def Sk (c : Nat) (t : SV) : Prop := ∃ a b : Int, t = .own [.dat (.int a), .dat (.int b), .dat (.int c)] ∧ Sm 1100000 a ∧ Sm 90 b
def cCoin : Ctr := fun as Q => ∃ (s : SV) (c : Nat) (m : Int), as = [s, .dat (.int m)] ∧ Sk c s ∧ c < 2 ^ 60 ∧ 0 < m ∧ Sm 8000 m ∧ ∀ n s' c', 0 ≤ n → n < m → Sk c' s' → c' ≤ c + 1 → Q (.dat (.int n)) [s', .dat (.int m)]
def cSack : Ctr := fun as Q => ∃ (ns : List Int) (r : Nat) (b : Bool), as = [.dat (scr b ns), .dat (.int r)] ∧ (∀ z ∈ ns, Sm 1048576 z) ∧ r < 2 ^ 40 ∧ ∀ s, Sk 0 s → Q s as
/-- widths, a list or a tuple -/
inductive Wk where
  | l
  | t
def dW (b : Wk) (ws : List Rat) : DD := match b with
  | .t => .tup (ws.map rT)
  | .l => dQ ws
@[simp] theorem dW_t (ws : List Rat) : dW .t ws = .tup (ws.map rT) := rfl
@[simp] theorem dW_f (ws : List Rat) : dW .l ws = .lst (ws.map rT) := rfl
def endW (ws u : List Rat) : Deed → Bool
  | .un i j => decide ((levs ws u).getD j 0 < (levs ws u).getD i 0)
  | _ => false
def cWidths : Ctr := fun as Q => ∃ (vs : List Vat) (x : Rat), as = [.dat (.lst (vs.map Vat.d)), .dat (rT x)] ∧ vs.length ≤ 1000 ∧ Q (oQ (vs.map (wid x))) as
def cLevels : Ctr := fun as Q => ∃ (b : Wk) (x : Rat) (D : Nat) (ws u : List Rat), as = [.dat (dW b ws), .dat (dQ u)] ∧ ws.length = u.length ∧ u.length ≤ 1000 ∧ 0 < D ∧ Sm 4000 D ∧ Wz D u ∧ Wd x ws ∧ Qb 51 x ∧ Q (oQ (levs ws u)) as
def cValve : Ctr := fun as Q => ∃ (b : Wk) (x : Rat) (D : Nat) (ws u : List Rat) (ks : List Nat), as = [.dat (dW b ws), .dat (dQ u), .dat (dI (nI ks))] ∧ ws.length = u.length ∧ u.length ≤ 20 ∧ 0 < D ∧ Sm 4000 D ∧ Wz D u ∧ Wd x ws ∧ Qb 51 x ∧ (Deed.op ks).ok u.length ∧ Q (oQ (stepW ws u (.op ks))) as
def cStep : Ctr := fun as Q => ∃ (b : Wk) (x : Rat) (D : Nat) (ws u : List Rat) (e : Deed), as = [.dat (dW b ws), .dat (dQ u), .dat e.d] ∧ ws.length = u.length ∧ u.length ≤ 20 ∧ 0 < D ∧ Sm 4000 D ∧ Wz D u ∧ Wd x ws ∧ Qb 51 x ∧ e.ok u.length ∧ (∀ i j, e ≠ .un i j) ∧ Q (oQ (stepW ws u e)) as
def cEnds : Ctr := fun as Q => ∃ (b : Wk) (x : Rat) (D : Nat) (ws u : List Rat) (e : Deed), as = [.dat (dW b ws), .dat (dQ u), .dat e.d] ∧ ws.length = u.length ∧ u.length ≤ 20 ∧ 0 < D ∧ Sm 4000 D ∧ Wz D u ∧ Wd x ws ∧ Qb 51 x ∧ e.ok u.length ∧ Q (.dat (.bl (endW ws u e))) as
def cChkT : Ctr := fun as Q => ∃ vs : List Vat, as = [.dat (.lst (vs.map Vat.d))] ∧ VatsOk vs ∧ Q (.dat .non) as
def cIsS : Ctr := fun as Q => ∃ (e : Deed) (n : Nat), as = [.dat e.d] ∧ e.ok n ∧ n ≤ 20 ∧ Q (.dat (.bl true)) as
def cTof : Ctr := fun as Q => ∃ (e : Deed) (n : Nat), as = [.dat e.d] ∧ e.ok n ∧ n ≤ 20 ∧ ∀ ks : List Nat, ks.length ≤ 20 → (∀ k ∈ ks, k < n) → Q (oI (nI ks)) as
def cChkS : Ctr := fun as Q => ∃ (e : Deed) (n : Nat), as = [.dat e.d, .dat (.int n)] ∧ e.ok n ∧ n ≤ 20 ∧ Q (.dat .non) as
theorem noLs_vats : ∀ vs : List Vat, noLs (vs.map Vat.d) = true
  | [] => rfl
  | v :: vs => by
    rw [List.map_cons, noLs, noLs_vats vs]
    obtain ⟨w, a⟩ := v
    cases w <;> rfl
theorem noLs_rats : ∀ l : List Rat, noLs (l.map rT) = true
  | [] => rfl
  | q :: l => by
    rw [List.map_cons, noLs, noLs_rats l]
    rfl
theorem flat_oQ (l : List Rat) : flatT (oQ l) = true := flatTs_all fun t m => by
  obtain ⟨q, _, rfl⟩ := List.mem_map.mp m
  rfl
/-! benches -/
/-- the waters ahead of all steps and behind each one -/
def scanW (ws u : List Rat) : List Deed → List (List Rat)
  | [] => [u]
  | e :: E => u :: scanW ws (stepW ws u e) E
theorem scanW_ne (ws u : List Rat) (E : List Deed) : scanW ws u E ≠ [] := by cases E <;> simp [scanW]
theorem scanW_snoc (ws : List Rat) (e : Deed) : ∀ (E : List Deed) (u : List Rat), scanW ws u (E ++ [e]) = scanW ws u E ++ [stepW ws (runW ws u E) e]
  | [], u => rfl
  | a :: E, u => by
    rw [List.cons_append, scanW, scanW_snoc ws e E, scanW]
    rfl
theorem scanW_last (ws : List Rat) : ∀ (E : List Deed) (u : List Rat), (scanW ws u E).getLast? = some (runW ws u E)
  | [], u => rfl
  | a :: E, u => by
    have ih := scanW_last ws E (stepW ws u a)
    rw [scanW, List.getLast?_cons, ih]
    rfl
theorem scanW_len (ws : List Rat) : ∀ (E : List Deed) (u : List Rat), (scanW ws u E).length = E.length + 1
  | [], u => rfl
  | a :: E, u => by rw [scanW, List.length_cons, scanW_len ws E, List.length_cons]
/-- what a bench has come to: steps done, whether over -/
structure Bn where
  vs : List Vat
  x : Rat
  E : List Deed
  o : Bool
def Bn.ws (b : Bn) : List Rat := b.vs.map (wid b.x)
def Bn.u (b : Bn) : List Rat := runW b.ws (amts b.vs) b.E
def Bn.od (b : Bn) : DD := if b.o = true then .int ((b.E.length : Int) - 1) else .non
structure Bn.ok (b : Bn) : Prop where
  v : VatsOk b.vs
  x : 0 < b.x
  q : Qb 51 b.x
  n : b.E.length ≤ 60
  e : ∀ e ∈ b.E, e.ok b.vs.length
theorem putT_le (x : Str) (t : SV) : ∀ fs : List (Str × SV), (putT x t fs).length ≤ fs.length + 1
  | [] => by simp [putT]
  | (g, y) :: r => by
    have := putT_le x t r
    rw [putT]
    split <;> simp only [List.length_cons] <;> omega
theorem putT_lt {x : Str} {t : SV} {fs : List (Str × SV)} {n : Nat} : fs.length < n → (putT x t fs).length < n + 1 := fun h => by
  have := putT_le x t fs
  omega
theorem pu1 {x1 : Str} {t1 : SV} : (putT x1 t1 []).length < 1000 := by
  have a1 := putT_le x1 t1 []
  simp only [List.length_nil] at a1
  omega
theorem pu2 {x1 x2 : Str} {t1 t2 : SV} : (putT x2 t2 (putT x1 t1 [])).length < 1000 := by
  have a1 := putT_le x1 t1 []
  have a2 := putT_le x2 t2 (putT x1 t1 [])
  simp only [List.length_nil] at a1
  omega
theorem pu3 {x1 x2 x3 : Str} {t1 t2 t3 : SV} : (putT x3 t3 (putT x2 t2 (putT x1 t1 []))).length < 1000 := by
  have a1 := putT_le x1 t1 []
  have a2 := putT_le x2 t2 (putT x1 t1 [])
  have a3 := putT_le x3 t3 (putT x2 t2 (putT x1 t1 []))
  simp only [List.length_nil] at a1
  omega
theorem pu4 {x1 x2 x3 x4 : Str} {t1 t2 t3 t4 : SV} : (putT x4 t4 (putT x3 t3 (putT x2 t2 (putT x1 t1 [])))).length < 1000 := by
  have a1 := putT_le x1 t1 []
  have a2 := putT_le x2 t2 (putT x1 t1 [])
  have a3 := putT_le x3 t3 (putT x2 t2 (putT x1 t1 []))
  have a4 := putT_le x4 t4 (putT x3 t3 (putT x2 t2 (putT x1 t1 [])))
  simp only [List.length_nil] at a1
  omega
theorem pu5 {x1 x2 x3 x4 x5 : Str} {t1 t2 t3 t4 t5 : SV} : (putT x5 t5 (putT x4 t4 (putT x3 t3 (putT x2 t2 (putT x1 t1 []))))).length < 1000 := by
  have a4 : (putT x4 t4 (putT x3 t3 (putT x2 t2 (putT x1 t1 [])))).length ≤ 4 := by
    have a1 := putT_le x1 t1 []
    have a2 := putT_le x2 t2 (putT x1 t1 [])
    have a3 := putT_le x3 t3 (putT x2 t2 (putT x1 t1 []))
    have a4 := putT_le x4 t4 (putT x3 t3 (putT x2 t2 (putT x1 t1 [])))
    simp only [List.length_nil] at a1
    omega
  have a5 := putT_le x5 t5 (putT x4 t4 (putT x3 t3 (putT x2 t2 (putT x1 t1 []))))
  omega
/-- its fields as a tree -/
def bF (b : Bn) (o : DD) (W T : List SV) : List (Str × SV) := [("first_tanks", .dat (.tup (b.vs.map Vat.d))), ("told_width", .dat (rT b.x)), ("all_widths", .dat (dW .t b.ws)), ("waters", .own W), ("done", .own T), ("over_at", .dat o)]
section
variable {b : Bn} {o o' : DD} {W W' T T' : List SV}
@[simp] theorem bF_len : (bF b o W T).length = 6 := rfl
@[simp] theorem bF_w : (bF b o W T).lookup ("waters" : Str) = some (.own W) := rfl
@[simp] theorem bF_d : (bF b o W T).lookup ("done" : Str) = some (.own T) := rfl
@[simp] theorem bF_o : (bF b o W T).lookup ("over_at" : Str) = some (.dat o) := rfl
@[simp] theorem bF_sw : setF "waters" (.own W') (bF b o W T) = bF b o W' T := rfl
@[simp] theorem bF_sd : setF "done" (.own T') (bF b o W T) = bF b o W T' := rfl
@[simp] theorem bF_po : putT "over_at" (.dat o') (bF b o W T) = bF b o' W T := rfl
end
/-- .. as data -/
def bG (b : Bn) (o : DD) (U T : List DD) : List (Str × DD) := [("first_tanks", .tup (b.vs.map Vat.d)), ("told_width", rT b.x), ("all_widths", dW .t b.ws), ("waters", .lst U), ("done", .lst T), ("over_at", o)]
section
variable {b : Bn} {o : DD} {U T : List DD}
@[simp] theorem bG_f : (bG b o U T).lookup ("first_tanks" : Str) = some (.tup (b.vs.map Vat.d)) := rfl
@[simp] theorem bG_x : (bG b o U T).lookup ("told_width" : Str) = some (rT b.x) := rfl
@[simp] theorem bG_a : (bG b o U T).lookup ("all_widths" : Str) = some (dW .t b.ws) := rfl
@[simp] theorem bG_w : (bG b o U T).lookup ("waters" : Str) = some (.lst U) := rfl
@[simp] theorem bG_d : (bG b o U T).lookup ("done" : Str) = some (.lst T) := rfl
@[simp] theorem bG_o : (bG b o U T).lookup ("over_at" : Str) = some o := rfl
@[simp] theorem bG_m1 : (bG b o U T).lookup ("levels" : Str) = none := rfl
@[simp] theorem bG_m2 : (bG b o U T).lookup ("water" : Str) = none := rfl
@[simp] theorem bG_m3 : (bG b o U T).lookup ("script" : Str) = none := rfl
end
@[simp] theorem bF_data (b : Bn) (o : DD) (W T : List SV) : SV.dataF (bF b o W T) = bG b o (W.map SV.data) (T.map SV.data) := by
  simp only [bF, bG, SV.dataF, SV.data, SV.datas_eq]
@[simp] theorem ob_data (C : Addr) (fs : List (Str × SV)) : (SV.ob C fs).data = .obj C (SV.dataF fs) := rfl
def Bn.U (b : Bn) : List DD := (scanW b.ws (amts b.vs) b.E).map dQ
def bD (C : Addr) (b : Bn) : DD := .obj C (bG b b.od b.U (b.E.map Deed.d))
structure BT (C : Addr) (b : Bn) (t : SV) : Prop where
  ex : ∃ W T, t = .ob C (bF b b.od W T) ∧ W.map SV.data = b.U ∧ T.map SV.data = b.E.map Deed.d
theorem BT.data {C : Addr} {b : Bn} {t : SV} (h : BT C b t) : t.data = bD C b := by
  obtain ⟨W, T, rfl, h1, h2⟩ := h.ex
  rw [ob_data, bF_data, h1, h2]
  rfl
/-- the last waters of a bench -/
theorem U_snoc {b : Bn} {W : List SV} (h : W.map SV.data = b.U) : ∃ W0 w, W = W0 ++ [w] ∧ w.data = dQ b.u := by
  have hl : (W.map SV.data).getLast? = some (dQ b.u) := by
    rw [h, Bn.U, List.getLast?_map, scanW_last]
    rfl
  rw [List.getLast?_map] at hl
  cases e : W.getLast? with
  | none => rw [e] at hl; cases hl
  | some w =>
    rw [e] at hl
    have hw : w.data = dQ b.u := by simpa using hl
    obtain ⟨W0, rfl⟩ := List.getLast?_eq_some_iff.mp e
    exact ⟨W0, w, rfl, hw⟩
theorem U_end (b : Bn) : atI b.U (-1) = some (dQ b.u) := by
  rw [atI_end, Bn.U, List.getLast?_map, scanW_last]
  rfl
theorem U_next {b : Bn} {W : List SV} {e : Deed} {o : Bool} (h : W.map SV.data = b.U) (w : SV) (hw : w.data = dQ (stepW b.ws b.u e)) : (W ++ [w]).map SV.data = (⟨b.vs, b.x, b.E ++ [e], o⟩ : Bn).U := by
  rw [List.map_append, h, Bn.U, Bn.U]
  show _ = (scanW b.ws (amts b.vs) (b.E ++ [e])).map dQ
  rw [scanW_snoc, List.map_append, List.map_singleton, List.map_singleton, hw]
  rfl
theorem set_last {W : List SV} {w v : SV} : (W ++ [w]).set W.length v = W ++ [v] := by simp
theorem BT.mk' {C : Addr} {b : Bn} {o : DD} {W T : List SV} (ho : o = b.od) (h1 : W.map SV.data = b.U) (h2 : T.map SV.data = b.E.map Deed.d) : BT C b (.ob C (bF b o W T)) := by
  subst ho
  exact ⟨W, T, rfl, h1, h2⟩
theorem Bn.sz {b : Bn} (ok : b.ok) : Wd b.x b.ws ∧ b.ws.length = b.u.length ∧ b.u.length = b.vs.length ∧ b.u.length ≤ 20 ∧ ∃ D : Nat, 0 < D ∧ Sm 4000 (D : Int) ∧ Wz D b.u := by
  obtain ⟨D, r⟩ := ran_ok ok.v ok.x ok.q _ b.E rfl ok.e
  obtain ⟨wz, sD⟩ := r.wz ok.v ok.n ok.e
  have rl : b.u.length = b.vs.length := r.l
  have := ok.v.n
  exact ⟨wd_of ok.v ok.x, by rw [rl]; simp [Bn.ws], rl, by omega, D, r.d0, sD, wz⟩
def isU : Deed → Bool
  | .un _ _ => true
  | _ => false
theorem isU_no {e : Deed} (h : isU e = false) : ∀ i j, e ≠ .un i j := fun i j z => by subst z; cases h
theorem tree_word {s : SV} {e : Deed} (h : s.data = e.d) : s = .dat e.d ∨ ∃ z r ts, s = .tp (.dat (.str z) :: ts) ∧ e.d = .tup (.str z :: r) := by
  have ez : ∃ z r, e.d = .tup (.str z :: r) := by cases e <;> exact ⟨_, _, rfl⟩
  obtain ⟨z, r, ez⟩ := ez
  cases s with
  | dat d => left; rw [← h]; rfl
  | own ts => rw [ez] at h; cases h
  | ob C fs => rw [ez] at h; cases h
  | tp ts =>
    right
    rw [ez] at h
    cases ts with
    | nil => cases h
    | cons a ts =>
      simp only [SV.data, SV.datas, DD.tup.injEq, List.cons.injEq] at h
      cases a with
      | dat d =>
        have : d = .str z := h.1
        subst this
        exact ⟨z, r, ts, rfl, ez⟩
      | own _ => cases h.1
      | ob _ _ => cases h.1
      | tp _ => cases h.1
theorem un_test {s : SV} {t : Option SV} {e : Deed} {x2 x3 : Option SV} (h : s.data = e.d) (Q : Bool → Rho → Prop) (q : Q (isU e) [t, some s, x2, x3]) :
    fTst (fBin oEqS (vO (fPd (qI (kC 0) (qN 1)))) (vO (fC (DD.str (Str.ofString "unless"))))) [t, some s, x2, x3] Q := by
  rcases tree_word h with rfl | ⟨z, r, ts, rfl, ez⟩
  · cases e <;> simpa [Deed.d, isU] using q
  · have key : decide (z = Str.ofString "unless") = isU e := by
      cases e <;> simp [Deed.d] at ez <;> obtain ⟨ez, _⟩ := ez <;> subst ez <;> simp [isU]
    have ix : ixN (ts.length + 1) 0 = some 0 := by unfold ixN; simp
    simp [ix]
    rw [← key] at q
    by_cases y : z = Str.ofString "unless"
    · rw [decide_eq_true y] at q
      simpa [y] using q
    · rw [decide_eq_false y] at q
      simpa [y] using q
section
variable (C : Addr)
def cBInit : Ctr := fun as Q => ∃ (vs : List Vat) (x : Rat), as = [.ob C [], .dat (.lst (vs.map Vat.d)), .dat (rT x)] ∧ VatsOk vs ∧ 0 < x ∧ ∀ t, BT C ⟨vs, x, [], false⟩ t → flatT t = true → Q (.dat .non) [t, .dat (.lst (vs.map Vat.d)), .dat (rT x)]
def cBCall : Ctr := fun as Q => ∃ (b : Bn) (e : Deed) (t s : SV), as = [t, s] ∧ BT C b t ∧ b.ok ∧ b.o = false ∧ s.data = e.d ∧ e.ok b.vs.length ∧ b.E.length < 60 ∧ ∀ t', BT C ⟨b.vs, b.x, b.E ++ [e], endW b.ws b.u e⟩ t' → Q (.dat (.bl (endW b.ws b.u e))) [t', s]
def cBLevels : Ctr := fun as Q => ∃ b : Bn, as = [.dat (bD C b)] ∧ b.ok ∧ Q (oQ (levs b.ws b.u)) as
def cBWater : Ctr := fun as Q => ∃ b : Bn, as = [.dat (bD C b)] ∧ b.ok ∧ Q (.dat (rT (tot b.u))) as
def cBEnded : Ctr := fun as Q => ∃ b : Bn, as = [.dat (bD C b)] ∧ Q (.dat b.od) as
end
theorem ix_word (e : Deed) : ∃ z, ∀ P : DD → Prop, P (.str z) → ixT (.dat e.d) 0 P := by
  cases e <;> exact ⟨_, fun P h => by simpa [Deed.d] using h⟩
theorem cp_vats (vs : List Vat) : cp (.lst (vs.map Vat.d)) = .own ((vs.map Vat.d).map .dat) := by
  rw [cp, cps_eq]
  congr 1
  rw [List.map_map, List.map_map]
  refine List.map_congr_left fun v _ => ?_
  obtain ⟨w, a⟩ := v
  cases w <;> rfl
theorem okC_vats {vs : List Vat} (h : VatsOk vs) : okC 8 (.lst (vs.map Vat.d)) := by
  have := h.n
  refine ⟨by simp; omega, fun d m => ?_⟩
  obtain ⟨v, _, rfl⟩ := List.mem_map.mp m
  obtain ⟨w, a⟩ := v
  cases w <;> simp [Vat.d, okC]
/-! the law's own draws -/
def cPart : Ctr := fun as Q => ∃ (s : SV) (c : Nat) (m : Int), as = [s, .dat (.int m)] ∧ Sk c s ∧ c < 2 ^ 50 ∧ 1 ≤ m ∧ m ≤ 1000 ∧ ∀ p s' c', Prt p → Sk c' s' → c' ≤ c + 2 → Q (.dat (rT p)) [s', .dat (.int m)]
def cTwo : Ctr := fun as Q => ∃ (s : SV) (c : Nat) (m : Nat), as = [s, .dat (.int m)] ∧ Sk c s ∧ c < 2 ^ 50 ∧ 2 ≤ m ∧ m ≤ 20 ∧ ∀ (i j : Nat) s' c', i < m → j < m → i ≠ j → Sk c' s' → c' ≤ c + 2 → Q (.dat (.tup [.int i, .int j])) [s', .dat (.int m)]
def cVats : Ctr := fun as Q => ∃ (s : SV) (c : Nat) (m : Nat) (b : Int), as = [s, .dat (.int m), .dat (.int b)] ∧ Sk c s ∧ c < 2 ^ 50 ∧ 1 ≤ m ∧ m ≤ 20 ∧ 1 ≤ b ∧ b ≤ 1000 ∧ ∀ (vs : List Vat) s' c', VatsOk vs → vs.length = m → Sk c' s' → c' ≤ c + 100 →
  Q (.own ((vs.map Vat.d).map .dat)) [s', .dat (.int m), .dat (.int b)]
def words : List Str := ["open", "pour", "scoop", "move", "unless"]
def words2 : List Str := ["pour", "scoop", "move", "open", "unless"]
def cDeed : Ctr := fun as Q => ∃ (s : SV) (c : Nat) (m : Nat) (b : Int) (zs : List Str), as = [s, .dat (.int m), .dat (.int b), .dat (.lst (zs.map .str))] ∧ Sk c s ∧ c + 10 < 2 ^ 50 ∧ 1 ≤ m ∧ m ≤ 20 ∧ 1 ≤ b ∧ b ≤ 1000 ∧ zs ≠ [] ∧ zs.length ≤ 20 ∧ (∀ z ∈ zs, z ∈ words) ∧
  ∀ (e : Deed) s' c', e.ok m → Sk c' s' → c' ≤ c + 100 → Q (.dat e.d) [s', .dat (.int m), .dat (.int b), .dat (.lst (zs.map .str))]
def dShape (vs : List Vat) (ds : List Deed) : DD := .tup [.lst (vs.map Vat.d), .lst (ds.map Deed.d)]
def cShape : Ctr := fun as Q => ∃ (s : SV) (c : Nat), as = [s] ∧ Sk c s ∧ c < 2 ^ 49 ∧ ∀ (vs : List Vat) (ds : List Deed) s' c', VatsOk vs → ds.length ≤ 60 → (∀ e ∈ ds, e.ok vs.length) → Sk c' s' → c' ≤ c + 100000 → Q (.dat (dShape vs ds)) [s']
def cAny : Ctr := fun as Q => ∃ (s : SV) (c : Nat), as = [s] ∧ Sk c s ∧ c < 2 ^ 48 ∧ ∀ (vs : List Vat) (ds : List Deed) (b : Int) s' c', VatsOk vs → ds.length ≤ 60 → (∀ e ∈ ds, e.ok vs.length) → 1 ≤ b → b ≤ 1000 → Sk c' s' → c' ≤ c + 200000 → Q (.dat (.tup [dShape vs ds, .int b])) [s']
def cWidth : Ctr := fun as Q => ∃ (s : SV) (c : Nat), as = [s] ∧ Sk c s ∧ c < 2 ^ 50 ∧ ∀ x s' c', 0 < x → Qb 51 x → Sk c' s' → c' ≤ c + 8 → Q (.dat (rT x)) [s']
def cWidthA : Ctr := fun as Q => ∃ (s : SV) (c : Nat), as = [s] ∧ Sk c s ∧ c < 2 ^ 49 ∧ ∀ x s' c', 0 < x → Qb 51 x → Sk c' s' → c' ≤ c + 16 → Q (.dat (rT x)) [s']
section
variable (C : Addr)
def cBench : Ctr := fun as Q => ∃ (s : SV) (c : Nat) (vs : List Vat) (x : Rat), as = [s, .dat (.lst (vs.map Vat.d)), .dat (rT x)] ∧ Sk c s ∧ c < 2 ^ 50 ∧ VatsOk vs ∧ 0 < x ∧ ∀ t s' c', BT C ⟨vs, x, [], false⟩ t → Sk c' s' → c' ≤ c + 1 → Q t [s', .dat (.lst (vs.map Vat.d)), .dat (rT x)]
def cDoes : Ctr := fun as Q => ∃ (s : SV) (c : Nat) (b : Bn) (e : Deed) (t : SV), as = [s, t, .dat e.d] ∧ Sk c s ∧ c < 2 ^ 50 ∧ BT C b t ∧ b.ok ∧ b.o = false ∧ e.ok b.vs.length ∧ b.E.length < 60 ∧ ∀ t' s' c', BT C ⟨b.vs, b.x, b.E ++ [e], endW b.ws b.u e⟩ t' → Sk c' s' → c' ≤ c + 1 → Q (.dat (.bl (endW b.ws b.u e))) [s', t', .dat e.d]
end
end My

namespace My
open PySem PySem.Spec PyProof.Rows L2 DL
/-- as far as a script goes from some waters -/
def goW (ws : List Rat) : List Rat → Nat → List Deed → Option Nat × List Rat
  | u, _, [] => (none, u)
  | u, i, e :: E => if endW ws u e = true then (some i, u) else goW ws (stepW ws u e) (i + 1) E
theorem end_step {ws u : List Rat} {e : Deed} (h : endW ws u e = true) : stepW ws u e = u := by
  cases e <;> first | rfl | cases h
theorem goW_none {ws : List Rat} : ∀ {E : List Deed} {u v : List Rat} {i : Nat}, goW ws u i E = (none, v) → v = runW ws u E
  | [], u, v, i, h => by
    rw [goW] at h
    exact (Prod.mk.inj h).2.symm
  | e :: E, u, v, i, h => by
    rw [goW] at h
    split at h
    · cases (Prod.mk.inj h).1
    · exact (goW_none h : v = runW ws (stepW ws u e) E)
theorem goW_app {ws : List Rat} {F : List Deed} : ∀ {E : List Deed} {u : List Rat} {i : Nat}, (goW ws u i E).1 = none → goW ws u i (E ++ F) = goW ws (runW ws u E) (i + E.length) F
  | [], u, i, _ => rfl
  | e :: E, u, i, h => by
    rw [goW] at h
    rw [List.cons_append, goW]
    split at h
    · cases h
    · next z =>
      rw [if_neg z, goW_app h]
      show _ = goW ws (runW ws (stepW ws u e) E) _ F
      rw [List.length_cons]
      congr 1
      omega
theorem goW_stop {ws : List Rat} {F : List Deed} {j : Nat} {v : List Rat} : ∀ {E : List Deed} {u : List Rat} {i : Nat}, goW ws u i E = (some j, v) → goW ws u i (E ++ F) = (some j, v)
  | [], u, i, h => by rw [goW] at h; cases h
  | e :: E, u, i, h => by
    rw [goW] at h
    rw [List.cons_append, goW]
    split at h
    · next z => rw [if_pos z]; exact h
    · next z => rw [if_neg z]; exact goW_stop h
/-- steps of which none but the last ends it -/
inductive Led (ws u : List Rat) : List Deed → Bool → Prop
  | nil : Led ws u [] false
  | snoc {E : List Deed} (h : Led ws u E false) (e : Deed) : Led ws u (E ++ [e]) (endW ws (runW ws u E) e)
def outW (E : List Deed) (o : Bool) : Option Nat := if o = true then some (E.length - 1) else none
theorem Led.go {ws u : List Rat} {E : List Deed} {o : Bool} (h : Led ws u E o) : goW ws u 0 E = (outW E o, runW ws u E) := by
  induction h with
  | nil => rfl
  | @snoc E h e ih =>
    rw [goW_app (by rw [ih]; rfl), goW, runW_snoc]
    unfold outW
    cases z : endW ws (runW ws u E) e with
    | true => simp [end_step z]
    | false => simp [goW]
theorem Led.last {ws u : List Rat} {E : List Deed} {o : Bool} {e : Deed} (h : Led ws u (E ++ [e]) o) : Led ws u E false ∧ o = endW ws (runW ws u E) e := by
  generalize eF : E ++ [e] = F at h
  cases h with
  | nil => simp at eF
  | @snoc E' h e' =>
    obtain ⟨rfl, e2⟩ := List.append_inj' eF rfl
    cases e2
    exact ⟨h, rfl⟩
def idD : Option Nat → DD
  | none => .non
  | some j => .int j
theorem idD_out (b : Bn) (h : b.o = true → 0 < b.E.length) : idD (outW b.E b.o) = b.od := by
  unfold outW Bn.od
  cases z : b.o with
  | true =>
    have := h z
    simp [idD]
    omega
  | false => rfl
theorem Led.pos {ws u : List Rat} {E : List Deed} {o : Bool} (h : Led ws u E o) : o = true → 0 < E.length := by
  cases h with
  | nil => intro z; cases z
  | snoc h e => intro; simp
def Bn.led (b : Bn) : Prop := Led b.ws (amts b.vs) b.E b.o
theorem Bn.led.out {b : Bn} (h : b.led) : goW b.ws (amts b.vs) 0 b.E = (outW b.E b.o, b.u) ∧ idD (outW b.E b.o) = b.od := ⟨h.go, idD_out b h.pos⟩
theorem deed_ok1 (e : Deed) : e.d.pure = true ∧ PyData.canLay0 e.d.py = true ∧ PyData.depth e.d.py ≤ 2 := by
  cases e <;> simp [Deed.d, dI, rT, DD.pure, DD.pures, DD.py, DD.pys, PyData.canLay0, PyData.canLayAll0, PyData.depth, PyData.depthAll, okD_ints] <;> decide +kernel
theorem deeds_okA (l : List Deed) : DD.pures (l.map Deed.d) = true ∧ PyData.canLayAll0 (DD.pys (l.map Deed.d)) = true ∧ PyData.depthAll (DD.pys (l.map Deed.d)) ≤ 2 := by
  induction l with
  | nil => simp [DD.pures, DD.pys, PyData.canLayAll0, PyData.depthAll]
  | cons x l ih =>
    obtain ⟨h1, h2, h3⟩ := ih
    obtain ⟨a1, a2, a3⟩ := deed_ok1 x
    simp [DD.pures, DD.pys, PyData.canLayAll0, PyData.depthAll, h1, h2, a1, a2]
    omega
theorem okD_deeds (l : List Deed) : okD (.lst (l.map Deed.d)) = true := by
  obtain ⟨h1, h2, h3⟩ := deeds_okA l
  simp [okD, DD.pure, DD.py, SeqAt.shaped, PyData.canLay0, PyData.depth, h1, h2]
  omega
def gQ (F : List Rat) : DD → SV
  | .int k => .dat (rT (F.getD k.toNat 0))
  | _ => .dat .non
theorem gQ_all (F : List Rat) (ks : List Nat) : ((nI ks).map DD.int).map (gQ F) = (ks.map fun k => F.getD k 0).map fun q => SV.dat (rT q) := by
  simp only [nI, List.map_map]
  refine List.map_congr_left fun k _ => ?_
  simp [gQ]
theorem rg_gQ (v : List Rat) {n : Nat} (h : n = v.length) : (rgD 0 1 n).map (gQ v) = v.map fun q => SV.dat (rT q) := by
  subst h
  refine List.ext_getElem? fun i => ?_
  rw [List.getElem?_map, List.getElem?_map]
  cases e : (rgD 0 1 v.length)[i]? with
  | none =>
    have : (rgD 0 1 v.length).length = v.length := by simp [rgD]
    rw [List.getElem?_eq_none_iff, this] at e
    rw [List.getElem?_eq_none e]
    rfl
  | some d =>
    obtain ⟨rfl, hi⟩ := rg_get e
    rw [List.getElem?_eq_getElem hi]
    simp [gQ, List.getD_eq_getElem?_getD, hi]
/-! scripts as trees -/
def dV (b : Wk) (vs : List Vat) : DD := match b with
  | .t => .tup (vs.map Vat.d)
  | .l => .lst (vs.map Vat.d)
@[simp] theorem dV_t (vs : List Vat) : dV .t vs = .tup (vs.map Vat.d) := rfl
@[simp] theorem dV_f (vs : List Vat) : dV .l vs = .lst (vs.map Vat.d) := rfl
def dE (b : Wk) (ds : List Deed) : DD := match b with
  | .t => .tup (ds.map Deed.d)
  | .l => .lst (ds.map Deed.d)
@[simp] theorem dE_t (vs : List Deed) : dE .t vs = .tup (vs.map Deed.d) := rfl
@[simp] theorem dE_f (vs : List Deed) : dE .l vs = .lst (vs.map Deed.d) := rfl
def sT (C : Addr) (vs : List Vat) (ds : List Deed) : SV := .ob C [("kept_tanks", .dat (.tup (vs.map Vat.d))), ("kept_steps", .tp (ds.map Deed.t))]
@[simp] theorem sT_data (C : Addr) (vs : List Vat) (ds : List Deed) : (sT C vs ds).data = sObj C vs ds := by
  unfold sT sObj
  rw [ob_data]
  simp [SV.dataF]
  exact fun a _ => a.t_data
theorem sT_flat (C : Addr) (vs : List Vat) (ds : List Deed) : flatT (sT C vs ds) = true := by
  have h : flatTs (ds.map Deed.t) = true := flatTs_all fun t m => by
    obtain ⟨e, _, rfl⟩ := List.mem_map.mp m
    exact flat_deed e
  simp only [sT, flatT, flatTf, noL, noLs_vats, h, Bool.true_and]
def sF (vs : List Vat) (ds : List Deed) : List (Str × DD) := [("kept_tanks", .tup (vs.map Vat.d)), ("kept_steps", .tup (ds.map Deed.d))]
theorem sObj_eq (C : Addr) (vs : List Vat) (ds : List Deed) : sObj C vs ds = .obj C (sF vs ds) := rfl
section
variable {vs : List Vat} {ds : List Deed}
@[simp] theorem sF_t : (sF vs ds).lookup ("kept_tanks" : Str) = some (.tup (vs.map Vat.d)) := rfl
@[simp] theorem sF_s : (sF vs ds).lookup ("kept_steps" : Str) = some (.tup (ds.map Deed.d)) := rfl
@[simp] theorem sF_m1 : (sF vs ds).lookup ("without" : Str) = none := rfl
@[simp] theorem sF_m2 : (sF vs ds).lookup ("exchanged" : Str) = none := rfl
end
theorem sF_no {vs : List Vat} {ds : List Deed} {m : Str} (h : m ∉ (["kept_tanks", "kept_steps"] : List Str)) : ∀ (a : Str) (c : DD), (a, c) ∈ sF vs ds → ¬ m = a := fun a c ma z => by
  subst z
  exact h (List.mem_map_of_mem (f := Prod.fst) ma)
theorem bG_names (b : Bn) (o : DD) (U T : List DD) : (bG b o U T).map Prod.fst = (["first_tanks", "told_width", "all_widths", "waters", "done", "over_at"] : List Str) := rfl
theorem bG_no {b : Bn} {o : DD} {U T : List DD} {m : Str} (h : m ∉ (["first_tanks", "told_width", "all_widths", "waters", "done", "over_at"] : List Str)) : ∀ (a : Str) (c : DD), (a, c) ∈ bG b o U T → ¬ m = a := fun a c ma z => by
  subst z
  have := List.mem_map_of_mem (f := Prod.fst) ma
  rw [bG_names] at this
  exact h this
def pD (o : Option Nat) (l : List Rat) : DD := .tup [idD o, dQ l]
def pT (o : Option Nat) (l : List Rat) : SV := .tp [.dat (idD o), oQ l]
theorem pT_data (o : Option Nat) (l : List Rat) : (pT o l).data = pD o l := by
  unfold pT pD
  rw [tp_data, List.map_cons, List.map_singleton, oQ_data]
  rfl
theorem cp_pD (o : Option Nat) (l : List Rat) : cp (pD o l) = pT o l := by
  have h : noLs [idD o, dQ l] = false := by cases o <;> simp [noLs, noL, dQ, idD]
  have h2 : cp (dQ l) = oQ l := by
    unfold dQ oQ
    rw [cp, cps_eq, List.map_map]
    exact congrArg SV.own (List.map_congr_left fun q _ => cp_rT q)
  have h3 : cp (idD o) = .dat (idD o) := by cases o <;> rfl
  simp only [pD, pT, cp, h, cps, h2, h3]
  rfl
theorem rats_facts : ∀ {l : List Rat}, (∀ q ∈ l, Qb 1900 q) → okSs (l.map fun q => SV.dat (rT q)) = true ∧ szTs (l.map fun q => SV.dat (rT q)) ≤ l.length * 3851 ∧ dpTs (l.map fun q => SV.dat (rT q)) ≤ 1 ∧ cnts (l.map fun q => SV.dat (rT q)) = 0
  | [], _ => ⟨rfl, Nat.zero_le _, Nat.zero_le _, rfl⟩
  | q :: l, h => by
    obtain ⟨h1, h2, h3, h4⟩ := rats_facts fun x m => h x (List.mem_cons_of_mem _ m)
    have z := Rz.rat ((h q List.mem_cons_self).mono (show 1900 ≤ 1920 by decide))
    have zl := z.l
    have ze := z.e
    rw [List.map_cons]
    refine ⟨by simp [okSs, okS, z.p, z.s, h1], ?_, ?_, by simp [cnts, DL.cnt, h4]⟩
    · simp only [szTs, szT, List.length_cons]
      omega
    · simp only [dpTs, dpT]
      omega
theorem pair_right {o : Option Nat} {l : List Rat} (ho : ∀ j, o = some j → j < 2 ^ 60) (hl : ∀ q ∈ l, Qb 1900 q) (hn : l.length ≤ 20) : okC 8 (pD o l) ∧ okT 8 (pT o l) ∧ DL.cnt (pT o l) < 2 ^ 20 ∧ okR (pD o l) ∧ okR (markT (pT o l)).data := by
  obtain ⟨a1, a2, a3, a4⟩ := rats_facts hl
  have zi : Rz 1921 0 (idD o) := by
    cases o with
    | none => exact Rz.non.mono (by decide) (by decide)
    | some j =>
      refine Rz.int (Sm.mono (k := 60) ?_ (by decide))
      have := ho j rfl
      unfold Sm
      simpa using this
  have zl := zi.l
  have ze := zi.e
  have c1 : DL.cnt (pT o l) = 1 := by simp only [pT, DL.cnt, cnts, oQ, a4]
  have key := tree_okR (t := pT o l) (by simp [pT, okS, okSs, oQ, zi.p, zi.s, a1]) (by rw [c1]; simp only [pT, szT, szTs, oQ]; omega) (by rw [c1]; decide) (by simp only [pT, dpT, dpTs, oQ]; omega)
  rw [pT_data] at key
  refine ⟨⟨by simp, fun d m => ?_⟩, ⟨by simp, fun d m => ?_⟩, by rw [c1]; decide, key.1, key.2⟩
  · rcases List.mem_cons.mp m with rfl | m
    · cases o <;> exact trivial
    · rw [List.mem_singleton.mp m]
      refine ⟨by simp; omega, fun d m => ?_⟩
      obtain ⟨q, _, rfl⟩ := List.mem_map.mp m
      exact okC_rat
  · rcases List.mem_cons.mp m with rfl | m
    · cases o <;> exact ⟨trivial, rfl⟩
    · rw [List.mem_singleton.mp m]
      refine ⟨by simp; omega, fun d m => ?_⟩
      obtain ⟨q, _, rfl⟩ := List.mem_map.mp m
      exact okT_rat
theorem lev_small {vs : List Vat} {x : Rat} {E : List Deed} (hv : VatsOk vs) (hx : 0 < x) (qx : Qb 51 x) (hE : E.length ≤ 13) (he : ∀ e ∈ E, e.ok vs.length) : (∀ q ∈ levs (vs.map (wid x)) (runW (vs.map (wid x)) (amts vs) E), Qb 1900 q) ∧ (levs (vs.map (wid x)) (runW (vs.map (wid x)) (amts vs) E)).length ≤ 20 := by
  obtain ⟨D, r⟩ := ran_ok hv hx qx _ E rfl he
  obtain ⟨wz, _⟩ := r.wz hv (by omega) he
  have wd := wd_of hv hx
  have hl : (vs.map (wid x)).length = (runW (vs.map (wid x)) (amts vs) E).length := by rw [r.l]; simp
  have sD : Sm 859 (D : Int) := r.sD.mono (by omega)
  refine ⟨fun q m => ?_, by rw [levs_len hl, r.l]; exact hv.n.2⟩
  obtain ⟨k, hk, e⟩ := List.getElem_of_mem m
  rw [levs_len hl] at hk
  have e2 := levs_get hl hk
  rw [List.getD_eq_getElem?_getD, List.getElem?_eq_getElem (by rw [levs_len hl]; exact hk), e] at e2
  have e3 : q = (runW (vs.map (wid x)) (amts vs) E).getD k 0 / (vs.map (wid x)).getD k 0 := e2
  have mu := getD_memQ hk
  obtain ⟨a1, a2⟩ := qb_of (m := 17) (wz.d _ mu) r.d0 sD (wz.p _ mu) (Rat.le_trans (wz.b _ mu) (by decide +kernel))
  obtain ⟨b1, b2, _, _⟩ := wd.sz qx (getD_memQ (u := vs.map (wid x)) (k := k) (by omega))
  rw [e3]
  exact (div_sz a1 b1 b2 a2).1.mono (by decide)
theorem Rz.wrd : ∀ {z : Str}, z ∈ (["open", "pour", "scoop", "move", "unless"] : List Str) → Rz 1921 0 (.str z) := by
  intro z h
  simp only [List.mem_cons, List.not_mem_nil, or_false] at h
  rcases h with rfl | rfl | rfl | rfl | rfl <;> exact ⟨by decide +kernel, by decide +kernel, by decide +kernel, by decide +kernel⟩
theorem Rz.nat {n : Nat} (h : n ≤ 2 ^ 60) : Rz 1921 0 (.int n) := Rz.int (Sm.mono (k := 61) (by unfold Sm; simpa using (by omega : n < 2 ^ 61)) (by decide))
theorem Rz.sml {n : Int} (h : 0 ≤ n) (h2 : n ≤ 1000) : Rz 1921 0 (.int n) := by
  obtain ⟨m, rfl⟩ := Int.eq_ofNat_of_zero_le h
  exact Rz.nat (by omega)
theorem Rz.vat {v : Vat} (h : v.ok) : Rz 4000 1 v.d := by
  obtain ⟨h1, h2, h3⟩ := h
  obtain ⟨w, a⟩ := v
  refine (Rz.tup (n := 1921) (D := 0) fun d m => ?_).mono (by simp) (by decide)
  rcases List.mem_cons.mp m with rfl | m
  · cases w with
    | none => exact Rz.non.mono (by decide) (by decide)
    | some i => exact Rz.sml (by have := h3 i rfl; omega) (h3 i rfl).2
  · rw [List.mem_singleton.mp m]
    exact Rz.sml h1 h2
theorem Rz.deed {e : Deed} {n : Nat} (h : e.ok n) (hn : n ≤ 20) : Rz 154000 2 e.d := by
  have q : ∀ p, Prt p → Rz 38470 1 (rT p) := fun p h => (Rz.rat (h.sz.1.mono (by decide))).mono (by decide) (by decide)
  have k : ∀ j : Nat, j < n → Rz 38470 1 (.int j) := fun j h => (Rz.nat (by omega)).mono (by decide) (by decide)
  have w : ∀ {z : Str}, z ∈ (["open", "pour", "scoop", "move", "unless"] : List Str) → Rz 38470 1 (.str z) := fun h => (Rz.wrd h).mono (by decide) (by decide)
  cases e with
  | op ks =>
    refine (Rz.tup (n := 38470) (D := 1) fun d m => ?_).mono (by simp) (by decide)
    rcases List.mem_cons.mp m with rfl | m
    · exact w (by simp)
    · rw [List.mem_singleton.mp m]
      refine (Rz.ints (l := nI ks) fun c mc => ?_).mono (by have := h.2.1; simp [nI]; omega) (by decide)
      obtain ⟨j, mj, rfl⟩ := List.mem_map.mp mc
      have := h.2.2.2 j mj
      refine Sm.mono (k := 60) ?_ (by decide)
      unfold Sm
      simpa using (by omega : j < 2 ^ 60)
  | pr j a =>
    refine (Rz.tup (n := 38470) (D := 1) fun d m => ?_).mono (by simp) (by decide)
    rcases List.mem_cons.mp m with rfl | m
    · exact w (by simp)
    rcases List.mem_cons.mp m with rfl | m
    · exact k j h.1
    · rw [List.mem_singleton.mp m]
      exact (Rz.sml h.2.1 h.2.2).mono (by decide) (by decide)
  | sc j p =>
    refine (Rz.tup (n := 38470) (D := 1) fun d m => ?_).mono (by simp) (by decide)
    rcases List.mem_cons.mp m with rfl | m
    · exact w (by simp)
    rcases List.mem_cons.mp m with rfl | m
    · exact k j h.1
    · rw [List.mem_singleton.mp m]
      exact q p h.2
  | mv i j p =>
    refine (Rz.tup (n := 38470) (D := 1) fun d m => ?_).mono (by simp) (by decide)
    rcases List.mem_cons.mp m with rfl | m
    · exact w (by simp)
    rcases List.mem_cons.mp m with rfl | m
    · exact k i h.1
    rcases List.mem_cons.mp m with rfl | m
    · exact k j h.2.1
    · rw [List.mem_singleton.mp m]
      exact q p h.2.2.2
  | un i j =>
    refine (Rz.tup (n := 38470) (D := 1) fun d m => ?_).mono (by simp) (by decide)
    rcases List.mem_cons.mp m with rfl | m
    · exact w (by simp)
    rcases List.mem_cons.mp m with rfl | m
    · exact k i h.1
    · rw [List.mem_singleton.mp m]
      exact k j h.2.1
theorem shape_okR {vs : List Vat} {ds : List Deed} (hv : VatsOk vs) (hn : ds.length ≤ 13) (hd : ∀ e ∈ ds, e.ok vs.length) : okR (.tup [.lst (vs.map Vat.d), .lst (ds.map Deed.d)]) := by
  have h1 : Rz 2100000 3 (.lst (vs.map Vat.d)) := (Rz.lst (n := 4000) (D := 1) fun d m => by
    obtain ⟨v, mv, rfl⟩ := List.mem_map.mp m
    exact Rz.vat (hv.v v mv)).mono (by have := hv.n; simp; omega) (by decide)
  have h2 : Rz 2100000 3 (.lst (ds.map Deed.d)) := (Rz.lst (n := 154000) (D := 2) fun d m => by
    obtain ⟨e, me, rfl⟩ := List.mem_map.mp m
    exact Rz.deed (hd e me) hv.n.2).mono (by simp; omega) (by decide)
  refine Rz.ok (Rz.tup (n := 2100000) (D := 3) fun d m => ?_) (by simp) (by decide)
  rcases List.mem_cons.mp m with rfl | m
  · exact h1
  · rw [List.mem_singleton.mp m]
    exact h2
theorem cut_init {α : Type} {l : List α} {a : α} : DL.cutD (l ++ [a]) none (some (-1)) = l := by
  unfold DL.cutD
  have e1 : HT.sIx (l ++ [a]).length 0 none = 0 := rfl
  have e2 : HT.sIx (l ++ [a]).length (l ++ [a]).length (some (-1)) = l.length := by
    unfold HT.sIx
    simp
    omega
  rw [e1, e2]
  simp
theorem bF_no {b : Bn} {o : DD} {W T : List SV} {m : Str} (h : m ∉ (["first_tanks", "told_width", "all_widths", "waters", "done", "over_at"] : List Str)) : ∀ (a : Str) (c : SV), (a, c) ∈ bF b o W T → ¬ m = a := fun a c ma z => by
  subst z
  exact h (List.mem_map_of_mem (f := Prod.fst) ma)
/-- what the state of a beginning tells of its end -/
def oF (ws u : List Rat) (F : List Deed) : Nat → DD
  | 0 => .non
  | j + 1 => match F[j]? with
    | some e => if endW ws (runW ws u (F.take j)) e = true then .int j else .non
    | none => .non
theorem oF_end {ws u : List Rat} {F : List Deed} (h : Led ws u F false) : oF ws u F F.length = .non := by
  generalize eo : false = o at h
  cases h with
  | nil => rfl
  | @snoc E h e =>
    rw [List.length_append, List.length_singleton, oF]
    have h1 : (E ++ [e])[E.length]? = some e := by simp
    rw [h1]
    dsimp only
    rw [List.take_left, ← eo]
    rfl
theorem led_od (b : Bn) : b.o = true → b.od = .int ((b.E.length : Int) - 1) := fun h => by simp [Bn.od, h]
section
variable (C Cs : Addr)
def cChkT2 : Ctr := fun as Q => ∃ (b : Wk) (vs : List Vat), as = [.dat (dV b vs)] ∧ VatsOk vs ∧ Q (.dat .non) as
def cInit : Ctr := fun as Q => ∃ (k : Wk) (vs : List Vat) (ds : List Deed), as = [.ob C [], .dat (.tup (vs.map Vat.d)), .dat (dE k ds)] ∧ VatsOk vs ∧ ds.length ≤ 100 ∧ (∀ e ∈ ds, e.ok vs.length) ∧ Q (.dat .non) [sT C vs ds, .dat (.tup (vs.map Vat.d)), .dat (dE k ds)]
def cTanks : Ctr := fun as Q => ∃ (vs : List Vat) (ds : List Deed), as = [.dat (sObj C vs ds)] ∧ Q (.own ((vs.map Vat.d).map .dat)) as
def cSteps : Ctr := fun as Q => ∃ (vs : List Vat) (ds : List Deed) (n : Nat), as = [.dat (sObj C vs ds)] ∧ n ≤ 20 ∧ ds.length ≤ 100 ∧ (∀ e ∈ ds, e.ok n) ∧ ∀ t : SV, t.data = .lst (ds.map Deed.d) → Q t as
def cWout : Ctr := fun as Q => ∃ (vs : List Vat) (ds : List Deed) (k : Nat), as = [.dat (sObj C vs ds), .dat (.int k)] ∧ VatsOk vs ∧ ds.length ≤ 100 ∧ (∀ e ∈ ds, e.ok vs.length) ∧ k < ds.length ∧ ∀ ds' : List Deed, ds'.length ≤ ds.length → (∀ e ∈ ds', e ∈ ds) → Q (sT C vs ds') as
def cExch : Ctr := fun as Q => ∃ (vs : List Vat) (ds : List Deed) (k : Nat), as = [.dat (sObj C vs ds), .dat (.int k)] ∧ VatsOk vs ∧ ds.length ≤ 100 ∧ (∀ e ∈ ds, e.ok vs.length) ∧ k + 1 < ds.length ∧ ∀ ds' : List Deed, ds'.length ≤ ds.length → (∀ e ∈ ds', e ∈ ds) → Q (sT C vs ds') as
def runO (vs : List Vat) (x : Rat) (ds : List Deed) : SV := .tp [.dat (idD (goW (vs.map (wid x)) (amts vs) 0 ds).1), oQ (levs (vs.map (wid x)) (goW (vs.map (wid x)) (amts vs) 0 ds).2)]
def cRun : Ctr := fun as Q => ∃ (vs : List Vat) (ds : List Deed) (x : Rat), as = [.dat (sObj C vs ds), .dat (rT x)] ∧ VatsOk vs ∧ ds.length ≤ 60 ∧ (∀ e ∈ ds, e.ok vs.length) ∧ 0 < x ∧ Qb 51 x ∧ Q (runO vs x ds) as
def cBUndo : Ctr := fun as Q => ∃ (b : Bn) (E : List Deed) (e : Deed) (t : SV), as = [t] ∧ BT C b t ∧ b.ok ∧ b.E = E ++ [e] ∧ ∀ t', BT C ⟨b.vs, b.x, E, false⟩ t' → Q (.dat .non) [t']
def cBScript : Ctr := fun as Q => ∃ b : Bn, as = [.dat (bD C b)] ∧ b.ok ∧ Q (sT Cs b.vs b.E) as
/-! the law's own -/
def stD (u : List Rat) (o : DD) (E : List Deed) : DD := .tup [dQ u, o, .lst (E.map Deed.d)]
def cHeights : Ctr := fun as Q => ∃ (x : Rat) (D : Nat) (ws u : List Rat), as = [.dat (dQ ws), .dat (dQ u)] ∧ ws.length = u.length ∧ u.length ≤ 20 ∧ 0 < D ∧ Sm 4000 D ∧ Wz D u ∧ Wd x ws ∧ Qb 51 x ∧ Q (oQ (levs ws u)) as
def cAfter : Ctr := fun as Q => ∃ (x : Rat) (D : Nat) (ws u : List Rat) (e : Deed), as = [.dat (dQ ws), .dat (dQ u), .dat e.d] ∧ ws.length = u.length ∧ u.length ≤ 20 ∧ 0 < D ∧ Sm 4000 D ∧ Wz D u ∧ Wd x ws ∧ Qb 51 x ∧ e.ok u.length ∧ Q (oQ (stepW ws u e)) as
def cOver : Ctr := fun as Q => ∃ (x : Rat) (D : Nat) (ws u : List Rat) (e : Deed), as = [.dat (dQ ws), .dat (dQ u), .dat e.d] ∧ ws.length = u.length ∧ u.length ≤ 20 ∧ 0 < D ∧ Sm 4000 D ∧ Wz D u ∧ Wd x ws ∧ Qb 51 x ∧ e.ok u.length ∧ Q (.dat (.bl (endW ws u e))) as
def cBegun : Ctr := fun as Q => ∃ vs : List Vat, as = [.dat (.lst (vs.map Vat.d))] ∧ vs.length ≤ 20 ∧ Q (.dat (stD (amts vs) .non [])) as
def cGone : Ctr := fun as Q => ∃ (x : Rat) (D : Nat) (ws u : List Rat) (o : DD) (E : List Deed) (e : Deed), as = [.dat (dQ ws), .dat (stD u o E), .dat e.d] ∧ ws.length = u.length ∧ u.length ≤ 20 ∧ 0 < D ∧ Sm 4000 D ∧ Wz D u ∧ Wd x ws ∧ Qb 51 x ∧ e.ok u.length ∧ E.length ≤ 100 ∧
  Q (.dat (stD (stepW ws u e) (if endW ws u e = true then .int E.length else .non) (E ++ [e]))) as
def cBOf : Ctr := fun as Q => ∃ (vs : List Vat) (ds : List Deed) (x : Rat), as = [.dat (sObj Cs vs ds), .dat (rT x)] ∧ VatsOk vs ∧ ds.length ≤ 60 ∧ (∀ e ∈ ds, e.ok vs.length) ∧ 0 < x ∧ Qb 51 x ∧
  ∀ (b : Bn) (t : SV), BT C b t → b.ok → b.vs = vs → b.x = x → b.E.length ≤ ds.length → goW (vs.map (wid x)) (amts vs) 0 ds = (outW b.E b.o, b.u) → idD (outW b.E b.o) = b.od → Q t as
def cRunR : Ctr := fun as Q => ∃ (vs : List Vat) (ds : List Deed) (x : Rat), as = [.dat (sObj C vs ds), .dat (rT x)] ∧ VatsOk vs ∧ ds.length ≤ 13 ∧ (∀ e ∈ ds, e.ok vs.length) ∧ 0 < x ∧ Qb 51 x ∧ Q (.dat (.bl true)) as
end
def cRight : Ctr := fun as Q => ∃ d, as = [cp d, .dat d] ∧ okC 8 d ∧ okT 8 (cp d) ∧ DL.cnt (cp d) < 2 ^ 20 ∧ okR d ∧ okR (markT (cp d)).data ∧ Q (.dat (.bl true)) [markT (cp d), .dat d]
theorem right_pair {o : Option Nat} {l : List Rat} (ho : ∀ j, o = some j → j < 2 ^ 60) (hl : ∀ q ∈ l, Qb 1900 q) (hn : l.length ≤ 20) {Q : SV → List SV → Prop} (q : Q (.dat (.bl true)) [markT (pT o l), .dat (pD o l)]) : cRight [pT o l, .dat (pD o l)] Q := by
  obtain ⟨h1, h2, h3, h4, h5⟩ := pair_right ho hl hn
  exact ⟨pD o l, by rw [cp_pD], h1, by rw [cp_pD]; exact h2, by rw [cp_pD]; exact h3, h4, by rw [cp_pD]; exact h5, by rw [cp_pD]; exact q⟩
theorem told {b : Bn} (hl : b.led) (ok : b.ok) (h13 : b.E.length ≤ 13) : ∃ o l, l = levs b.ws b.u ∧ idD o = b.od ∧ runO b.vs b.x b.E = pT o l ∧ (∀ j, o = some j → j < 2 ^ 60) ∧ (∀ q ∈ l, Qb 1900 q) ∧ l.length ≤ 20 := by
  have ls := lev_small ok.v ok.x ok.q h13 ok.e
  refine ⟨outW b.E b.o, _, rfl, hl.out.2, ?_, fun j z => ?_, ls.1, ls.2⟩
  · unfold runO pT
    have := hl.out.1
    unfold Bn.ws at this
    rw [this]
    rfl
  · unfold outW at z
    split at z
    · cases z; omega
    · cases z
theorem od_flat (b : Bn) : flatT (.dat b.od) = true := by
  unfold Bn.od
  split <;> rfl
def cChecked : Ctr := fun as Q => ∃ s, as = [s] ∧ Sk 0 s ∧ ∀ s', Q (.dat (.bl true)) [s']
end My

namespace My
open PySem PySem.Spec PyProof.Rows L2 DL
def top (i : Nat) : Stmt := PySem.Challenge.pw_valvelevels_k46_benches_led.main.body.getD i (.Pass ⟨0, 0, 0, 0⟩)
abbrev s__wall : Stmt := top 0
abbrev s_copied : Stmt := top 2
abbrev s_divisor : Stmt := top 11
abbrev s_reduced : Stmt := top 12
abbrev s_added : Stmt := top 13
abbrev s_multiplied : Stmt := top 14
abbrev s_compared : Stmt := top 15
abbrev s_is_fraction : Stmt := top 16
abbrev s_is_width : Stmt := top 17
abbrev s_widths_at : Stmt := top 19
abbrev s_levels_at : Stmt := top 20
abbrev s_valve_at : Stmt := top 21
abbrev s_step_at : Stmt := top 22
abbrev s_ends_at : Stmt := top 23
abbrev s_check_tanks : Stmt := top 26
abbrev s_is_step : Stmt := top 27
abbrev s_tanks_of : Stmt := top 28
abbrev s_check_step : Stmt := top 29
abbrev s__law_pv_sack : Stmt := top 34
abbrev s__law_pv_coin : Stmt := top 35
abbrev s__law_pv_shared : Stmt := top 36
abbrev s__law_pv_ratio : Stmt := top 37
abbrev s__law_pv_add : Stmt := top 38
abbrev s__law_pv_mul : Stmt := top 39
abbrev s__law_pv_side : Stmt := top 40
abbrev s__law_pv_copied : Stmt := top 41
abbrev s__law_pv_lists : Stmt := top 42
abbrev s__law_pv_marked : Stmt := top 43
abbrev s__law_pv_right : Stmt := top 44
abbrev s__law_pv_part : Stmt := top 45
abbrev s__law_pv_vessels : Stmt := top 46
abbrev s__law_pv_two : Stmt := top 47
abbrev s__law_pv_deed : Stmt := top 48
abbrev s__law_pv_shape : Stmt := top 49
abbrev s__law_pv_long : Stmt := top 50
abbrev s__law_pv_wide : Stmt := top 51
abbrev s__law_pv_heights : Stmt := top 52
abbrev s__law_pv_after : Stmt := top 53
abbrev s__law_pv_over : Stmt := top 54
abbrev s__law_pv_broads : Stmt := top 55
abbrev s__law_pv_bench : Stmt := top 56
abbrev s__law_pv_does : Stmt := top 57
abbrev s__law_pv_bench_right : Stmt := top 58
abbrev s__law_pv_begun : Stmt := top 59
abbrev s__law_pv_gone : Stmt := top 60
abbrev s__law_pv_total : Stmt := top 61
abbrev s__law_pv_capped : Stmt := top 62
abbrev s__law_pv_any_shape : Stmt := top 63
abbrev s__law_pv_any_wide : Stmt := top 64
abbrev s__law_pv_checked : Stmt := top 65
abbrev s_law : Stmt := top 66
abbrev s_Bench_init : Stmt := clsAt (top 32) 0
abbrev s_Bench_call : Stmt := clsAt (top 32) 1
abbrev s_Bench_levels : Stmt := clsAt (top 32) 2
abbrev s_Bench_water : Stmt := clsAt (top 32) 3
abbrev s_Bench_ended : Stmt := clsAt (top 32) 4
abbrev s_Bench_script : Stmt := clsAt (top 32) 6
abbrev s_Bench_len : Stmt := clsAt (top 32) 7
abbrev s_Script_init : Stmt := clsAt (top 30) 0
abbrev s_Script_tanks : Stmt := clsAt (top 30) 1
abbrev s_Script_steps : Stmt := clsAt (top 30) 2
end My
namespace My
open PySem PySem.Spec PyProof.Rows L2 DL
theorem rt_k {m : Nat} {n : Int} (a : -1000 ≤ n) (b : n ≤ 1000) : Rt (m + 1) 61 0 0 (.int n) := .sml ((sm_of (k := 10) (b := 1000) a b).mono (by decide))
theorem rt_vat {m : Nat} {v : Vat} (h : v.ok) : Rt (m + 2) 129 1 0 v.d := by
  obtain ⟨h1, h2, h3⟩ := h
  obtain ⟨w, a⟩ := v
  refine (Rt.tup (n := m + 1) (sz := 61) (dp := 0) (ct := 0) (fun d m => ?_) (by simp)).mono (by simp)
  rcases List.mem_cons.mp m with rfl | m
  · cases w with
    | none => exact .nonS
    | some i => exact rt_k (by have := h3 i rfl; omega) (h3 i rfl).2
  · rw [List.mem_singleton.mp m]
    exact rt_k (by have : 0 ≤ a := h1; omega) h2
theorem rt_word {n : Nat} {z : Str} (h : z ∈ (["open", "pour", "scoop", "move", "unless"] : List Str)) : Rt (n + 1) 61 0 0 (.str z) := by
  simp only [List.mem_cons, List.not_mem_nil, or_false] at h
  refine .strS ?_
  rcases h with rfl | rfl | rfl | rfl | rfl <;> decide +kernel
theorem rt_nats {n : Nat} {ks : List Nat} (h : ∀ k ∈ ks, k < 2 ^ 60) (hl : ks.length ≤ 20) : Rt (n + 2) 1263 1 1 (dI (nI ks)) :=
  (Rt.lst (n := n + 1) (sz := 61) (dp := 0) (ct := 0) (ds := (nI ks).map .int) (fun d m => by
    obtain ⟨c, mc, rfl⟩ := List.mem_map.mp m
    obtain ⟨k, mk, rfl⟩ := List.mem_map.mp mc
    exact .nat (h k mk)) (by simp [nI]; omega)).mono (by simp [nI]; omega) (by omega) (by simp)
theorem rt_deed {m : Nat} {e : Deed} {n : Nat} (h : e.ok n) (hn : n ≤ 20) : Rt (m + 3) 5100 2 4 e.d := by
  have q : ∀ p, Prt p → Rt (m + 2) 1263 1 1 (rT p) := fun p h => (Rt.ratS (n := m) (h.sz.1.mono (by decide))).mono
  have k : ∀ j : Nat, j < n → Rt (m + 2) 1263 1 1 (.int j) := fun j h => (Rt.nat (n := m + 1) (by omega)).mono
  have w : ∀ {z : Str}, z ∈ (["open", "pour", "scoop", "move", "unless"] : List Str) → Rt (m + 2) 1263 1 1 (.str z) := fun h => (rt_word (n := m + 1) h).mono
  cases e with
  | op ks =>
    refine (Rt.tup (n := m + 2) (sz := 1263) (dp := 1) (ct := 1) (fun d m => ?_) (by simp)).mono (by simp) (by omega) (by simp)
    rcases List.mem_cons.mp m with rfl | m
    · exact w (by simp)
    · rw [List.mem_singleton.mp m]
      exact rt_nats (fun j mj => by have := h.2.2.2 j mj; omega) h.2.1
  | pr j a =>
    refine (Rt.tup (n := m + 2) (sz := 1263) (dp := 1) (ct := 1) (fun d m => ?_) (by simp)).mono (by simp) (by omega) (by simp)
    rcases List.mem_cons.mp m with rfl | m
    · exact w (by simp)
    rcases List.mem_cons.mp m with rfl | m
    · exact k j h.1
    · rw [List.mem_singleton.mp m]
      exact (rt_k (by have := h.2.1; omega) h.2.2).mono
  | sc j p =>
    refine (Rt.tup (n := m + 2) (sz := 1263) (dp := 1) (ct := 1) (fun d m => ?_) (by simp)).mono (by simp) (by omega) (by simp)
    rcases List.mem_cons.mp m with rfl | m
    · exact w (by simp)
    rcases List.mem_cons.mp m with rfl | m
    · exact k j h.1
    · rw [List.mem_singleton.mp m]
      exact q p h.2
  | mv i j p =>
    refine (Rt.tup (n := m + 2) (sz := 1263) (dp := 1) (ct := 1) (fun d m => ?_) (by simp)).mono (by simp) (by omega) (by simp)
    rcases List.mem_cons.mp m with rfl | m
    · exact w (by simp)
    rcases List.mem_cons.mp m with rfl | m
    · exact k i h.1
    rcases List.mem_cons.mp m with rfl | m
    · exact k j h.2.1
    · rw [List.mem_singleton.mp m]
      exact q p h.2.2.2
  | un i j =>
    refine (Rt.tup (n := m + 2) (sz := 1263) (dp := 1) (ct := 1) (fun d m => ?_) (by simp)).mono (by simp) (by omega) (by simp)
    rcases List.mem_cons.mp m with rfl | m
    · exact w (by simp)
    rcases List.mem_cons.mp m with rfl | m
    · exact k i h.1
    · rw [List.mem_singleton.mp m]
      exact k j h.2.1
theorem rt_vats {m : Nat} {vs : List Vat} (h : VatsOk vs) : Rt (m + 3) 2700 2 1 (.lst (vs.map Vat.d)) :=
  (Rt.lst (n := m + 2) (sz := 129) (dp := 1) (ct := 0) (fun d md => by
    obtain ⟨v, mv, rfl⟩ := List.mem_map.mp md
    exact rt_vat (h.v v mv)) (by have := h.n; simp; omega)).mono (by have := h.n; simp; omega) (by omega) (by simp)
theorem rt_deeds {m n : Nat} {ds : List Deed} (h : ∀ e ∈ ds, e.ok n) (hn : n ≤ 20) (hl : ds.length ≤ 100) : Rt (m + 4) 520000 3 401 (.lst (ds.map Deed.d)) :=
  (Rt.lst (n := m + 3) (sz := 5100) (dp := 2) (ct := 4) (fun d md => by
    obtain ⟨e, me, rfl⟩ := List.mem_map.mp md
    exact rt_deed (h e me) hn) (by simp; omega)).mono (by simp; omega) (by omega) (by simp; omega)
theorem rt_rats {m : Nat} {l : List Rat} (h : ∀ q ∈ l, Qb 12900 q) (hl : l.length ≤ 20) : Rt (m + 3) 520000 2 1 (dQ l) :=
  (Rt.lst (n := m + 2) (sz := 25809) (dp := 1) (ct := 0) (fun d md => by
    obtain ⟨q, mq, rfl⟩ := List.mem_map.mp md
    exact .rat (h q mq)) (by simp; omega)).mono (by simp; omega) (by omega) (by simp)
theorem right_rt {sz dp ct : Nat} {d : DD} (h : Rt 8 sz dp ct d) (hz : sz + ct * 1923 ≤ 2 ^ 24) (hk : ct < 2 ^ 20) (hd : dp ≤ 60) {Q : SV → List SV → Prop} (q : Q (.dat (.bl true)) [markT (cp d), .dat d]) : cRight [cp d, .dat d] Q := by
  obtain ⟨h1, h2, h3, h4, h5⟩ := h.right hz hk hd
  exact ⟨d, rfl, h1, h2, h3, h4, h5, q⟩
/-- levels at a bench, of any length -/
theorem lev_big {b : Bn} (ok : b.ok) : (∀ q ∈ levs b.ws b.u, Qb 4200 q) ∧ (levs b.ws b.u).length ≤ 20 ∧ Qb 8300 (tot b.u) := by
  obtain ⟨wd, wl, ul, un, D, d0, sD, wz⟩ := Bn.sz ok
  refine ⟨fun q m => ?_, by rw [levs_len wl]; exact un, ?_⟩
  · obtain ⟨k, hk, e⟩ := List.getElem_of_mem m
    rw [levs_len wl] at hk
    have e2 := levs_get wl hk
    rw [List.getD_eq_getElem?_getD, List.getElem?_eq_getElem (by rw [levs_len wl]; exact hk), e] at e2
    have e3 : q = b.u.getD k 0 / b.ws.getD k 0 := e2
    have mu := getD_memQ hk
    obtain ⟨a1, a2⟩ := qb_of (m := 17) (wz.d _ mu) d0 sD (wz.p _ mu) (Rat.le_trans (wz.b _ mu) (by decide +kernel))
    obtain ⟨b1, b2, _, _⟩ := wd.sz ok.q (getD_memQ (u := b.ws) (k := k) (by omega))
    rw [e3]
    exact (div_sz a1 b1 b2 a2).1.mono (by decide)
  · obtain ⟨a1, a2⟩ := take_sz wz d0 sD un b.u.length
    rw [List.take_length] at a1
    exact a1.mono (by decide)
/-- what a bench tells -/
def tellD (b : Bn) : DD := .lst [b.od, .int b.E.length, dQ (levs b.ws b.u), rT (tot b.u)]
def tellS (b : Bn) : DD := .lst [.lst (b.vs.map Vat.d), .lst (b.E.map Deed.d), dQ (levs b.ws b.u)]
theorem tell_rt {b : Bn} (ok : b.ok) : Rt 8 3000000 5 10 (tellD b) := by
  obtain ⟨l1, l2, l3⟩ := lev_big ok
  have := ok.n
  refine (Rt.lst (n := 7) (sz := 520000) (dp := 3) (ct := 1) (fun d m => ?_) (by simp)).mono (by simp) (by omega) (by simp)
  rcases List.mem_cons.mp m with rfl | m
  · unfold Bn.od
    split
    · exact (Rt.sml (n := 6) ((sm_of (k := 10) (b := 1000) (by omega) (by omega)).mono (by decide))).mono
    · exact (Rt.nonS (n := 6)).mono
  rcases List.mem_cons.mp m with rfl | m
  · exact (Rt.nat (n := 6) (by omega)).mono
  rcases List.mem_cons.mp m with rfl | m
  · exact (rt_rats (m := 4) (fun q m => (l1 q m).mono (by decide)) l2).mono
  · rw [List.mem_singleton.mp m]
    exact (Rt.rat (n := 5) (l3.mono (by decide))).mono
theorem tell_rs {b : Bn} (ok : b.ok) : Rt 8 3000000 5 2000 (tellS b) := by
  obtain ⟨l1, l2, l3⟩ := lev_big ok
  have := ok.n
  refine (Rt.lst (n := 7) (sz := 520000) (dp := 3) (ct := 401) (fun d m => ?_) (by simp)).mono (by simp) (by omega) (by simp)
  rcases List.mem_cons.mp m with rfl | m
  · exact (rt_vats (m := 4) ok.v).mono
  rcases List.mem_cons.mp m with rfl | m
  · exact rt_deeds (m := 3) ok.e ok.v.n.2 (by omega)
  · rw [List.mem_singleton.mp m]
    exact (rt_rats (m := 4) (fun q m => (l1 q m).mono (by decide)) l2).mono
theorem Bn.next {b : Bn} (ok : b.ok) {e : Deed} (he : e.ok b.vs.length) (hn : b.E.length < 60) : ∃ b2 : Bn, b2 = ⟨b.vs, b.x, b.E ++ [e], endW b.ws b.u e⟩ ∧ b2.ok ∧ b2.vs = b.vs ∧ b2.x = b.x ∧ b2.ws = b.ws ∧ b2.E = b.E ++ [e] ∧ b2.u = stepW b.ws b.u e ∧
    b2.od = (if endW b.ws b.u e = true then DD.int b.E.length else .non) ∧ b2.o = endW b.ws b.u e := by
  refine ⟨_, rfl, ⟨ok.v, ok.x, ok.q, by simp; omega, fun a ha => ?_⟩, rfl, rfl, rfl, rfl, ?_, ?_, rfl⟩
  · rcases List.mem_append.mp ha with ha | ha
    · exact ok.e a ha
    · rw [List.mem_singleton.mp ha]; exact he
  · show runW b.ws (amts b.vs) (b.E ++ [e]) = _
    rw [runW_snoc]
    rfl
  · unfold Bn.od
    simp
theorem od_none {b : Bn} (h : b.o = false) : b.od = .non := by simp [Bn.od, h]
theorem okR_bl (b : Bool) : okR (.bl b) := (Rz.bl (b := b)).ok (by decide) (by decide)
section
variable (C Cs : Addr)
def cStepsC : Ctr := fun as Q => ∃ (vs : List Vat) (ds : List Deed) (n : Nat), as = [.dat (sObj C vs ds)] ∧ n ≤ 20 ∧ ds.length ≤ 100 ∧ (∀ e ∈ ds, e.ok n) ∧ Q (cp (.lst (ds.map Deed.d))) as
def cBLen : Ctr := fun as Q => ∃ b : Bn, as = [.dat (bD C b)] ∧ Q (.dat (.int b.E.length)) as
def cTotal : Ctr := fun as Q => ∃ (D : Nat) (u : List Rat), as = [.dat (dQ u)] ∧ 0 < D ∧ Sm 4000 D ∧ Wz D u ∧ u.length ≤ 20 ∧ Q (.dat (rT (tot u))) as
def cBRight : Ctr := fun as Q => ∃ b : Bn, as = [.dat (bD C b), .dat (.lst (b.vs.map Vat.d)), .dat (dQ b.ws), .dat (stD b.u b.od b.E)] ∧ b.ok ∧ Q (.dat (.bl true)) as
end
end My

namespace My
open PySem PySem.Spec PyProof.Rows L2 DL
section
variable {P : Program} {w : World} {K : PySem.W.Frag} {mg : Str → Option Value} {base : Heap} {f C_Bench C_Script D_SIZES : Addr} {fd : FuncData}
theorem g_divisor (F : FunD K "divisor" "divisor" (defArgs s_divisor) (defBody s_divisor) (defScope s_divisor) [] [] f fd)  (m_abs : mg "abs" = none) :
    FnG P w K mg base CX0 (1) f fd (["one", "other"] : List Str) (spD K cDiv) := by
  have S : FnScope (["one", "other"] : List Str) (["one", "other"] : List Str) (defScope s_divisor) := ⟨rfl, rfl, rfl, by decide +kernel, rfl, by decide +kernel, by decide +kernel⟩
  have nd : (["one", "other"] : List Str).Nodup := by decide +kernel
  refine okF (k := 0) [] F S (fun cdv A outer s H E hr => (ss_cons (s_par (i := 0) (j := 1) rfl nd (g_cons (ve (p_abs m_abs (os_cons (n_o 0 (pv 0) rfl) os_nil))) (g_cons (ve (p_abs m_abs (os_cons (n_o 1 (pv 1) rfl) os_nil))) g_nil)))
    (ss_cons (s_while PassesOwn.never (q_ne hr.r (n_o 1 (pv 1) rfl) (vo c_int)) (ss_one (s_par (i := 0) (j := 1) rfl nd (g_cons (ve (n_v 1 (pv 1) rfl)) (g_cons (ve (p_mod (n_o 0 (pv 0) rfl) (n_o 1 (pv 1) rfl))) g_nil)))))
    (ss_one (s_ret (ve (n_v 0 (pv 0) rfl))))))) ?_ rfl ?_
  · rintro as Q ⟨a, b, rfl, _⟩; rfl
  · rintro as Q ⟨a, b, rfl, q⟩
    simp
    refine ⟨fun m ρ => ∃ x y : Int, ρ = [some (.dat (.int x)), some (.dat (.int y))] ∧ 0 ≤ x ∧ 0 ≤ y ∧ m = y.toNat ∧ Int.gcd x y = Int.gcd a b, ⟨_, _, _, rfl, by split <;> omega, by split <;> omega, rfl, gcd_abs a b⟩, ?_⟩
    rintro m ρ ⟨x, y, rfl, hx, hy, rfl, hg⟩
    simp
    by_cases h : y = 0
    · subst h
      refine .inl ⟨rfl, ?_⟩
      rw [← hg, Int.gcd_zero] at q
      simpa [Int.natAbs_of_nonneg hx] using q
    · have := fmod_lt x hy h
      exact .inr ⟨h, _, by omega, hy, this.1, rfl, (gcd_fmod hx hy).trans hg⟩
theorem b_divisor {k : Nat} {C : Ctr} (G : FnG P w K mg base CX0 k f fd (["one", "other"] : List Str) (spD K C)) (F : FunD K "divisor" "divisor" (defArgs s_divisor) (defBody s_divisor) (defScope s_divisor) [] [] f fd) (hm : mg "divisor" = some (.ref f)) : Hs P w K mg base "divisor" (["one", "other"] : List Str) k C := by
  refine hsF G hm F ?_
  intro kV doc pm an cdv ct us hl
  match us, hl with
  | [u0, u1], _ => rfl

theorem g_reduced (F : FunD K "reduced" "reduced" (defArgs s_reduced) (defBody s_reduced) (defScope s_reduced) [] [] f fd)  (h_divisor : Hs P w K mg base "divisor" ["one", "other"] 1 cDiv) :
    FnG P w K mg base CX0 (2) f fd (["above", "below"] : List Str) (spD K cRed) := by
  have S : FnScope (["above", "below", "shared"] : List Str) (["above", "below"] : List Str) (defScope s_reduced) := ⟨rfl, rfl, rfl, by decide +kernel, rfl, by decide +kernel, by decide +kernel⟩
  have nd : (["above", "below", "shared"] : List Str).Nodup := by decide +kernel
  refine okF (k := 1) [] F S (fun cdv A outer s H E hr => (ss_cons (s_set (i := 2) nd (ve (ev (e_call h_divisor (hr.mono (by omega)) (a_val (ve (n_v 0 (pv 0) rfl)) (a_val (ve (n_v 1 (pv 1) rfl)) a_nil))))))
    (ss_cons (s_if (q_lt (n_o 1 (pv 1) rfl) (vo c_int)) (ss_one (s_set (i := 2) nd (ve (p_neg (n_o 2 (pv 2) rfl))))) ss_nil)
    (ss_one (s_ret (ve (v_tup (g_cons (ve (p_div (n_o 0 (pv 0) rfl) (n_o 2 (pv 2) rfl))) (g_cons (ve (p_div (n_o 1 (pv 1) rfl) (n_o 2 (pv 2) rfl))) g_nil))))))))) ?_ rfl ?_
  · rintro as Q ⟨a, b, rfl, _⟩; rfl
  · rintro as Q ⟨a, b, rfl, h, hs, q⟩
    have hg := gcd_small (a := a) h hs
    have e1 := rat_num (a := a) h
    have e2 := rat_den (a := a) h
    simp [cDiv, h]
    by_cases l : b < 0
    · rw [if_pos l] at e1 e2
      exact .inr ⟨l, hg.neg.pylong a, hg.neg.pylong b, by rw [e1, e2]; exact q⟩
    · rw [if_neg (by omega)] at e1 e2
      exact .inl ⟨by omega, hg.pylong a, hg.pylong b, by rw [e1, e2]; exact q⟩
theorem b_reduced {k : Nat} {C : Ctr} (G : FnG P w K mg base CX0 k f fd (["above", "below"] : List Str) (spD K C)) (F : FunD K "reduced" "reduced" (defArgs s_reduced) (defBody s_reduced) (defScope s_reduced) [] [] f fd) (hm : mg "reduced" = some (.ref f)) : Hs P w K mg base "reduced" (["above", "below"] : List Str) k C := by
  refine hsF G hm F ?_
  intro kV doc pm an cdv ct us hl
  match us, hl with
  | [u0, u1], _ => rfl

theorem g_added (F : FunD K "added" "added" (defArgs s_added) (defBody s_added) (defScope s_added) [] [] f fd)  (h_reduced : Hs P w K mg base "reduced" ["above", "below"] 2 cRed) :
    FnG P w K mg base CX0 (3) f fd (["one", "other"] : List Str) (spD K cAddR) := by
  have S : FnScope (["one", "other"] : List Str) (["one", "other"] : List Str) (defScope s_added) := ⟨rfl, rfl, rfl, by decide +kernel, rfl, by decide +kernel, by decide +kernel⟩
  have nd : (["one", "other"] : List Str).Nodup := by decide +kernel
  refine okF (k := 2) [] F S (fun cdv A outer s H E hr => (ss_one (s_ret (e_call h_reduced (hr.mono (by omega)) (a_val (ve (p_add (vo (p_mul (vo (v_ix (n_o 0 (pv 0) rfl) (vo c_int))) (vo (v_ix (n_o 1 (pv 1) rfl) (vo c_int))))) (vo (p_mul (vo (v_ix (n_o 1 (pv 1) rfl) (vo c_int))) (vo (v_ix (n_o 0 (pv 0) rfl) (vo c_int))))))) (a_val (ve (p_mul (vo (v_ix (n_o 0 (pv 0) rfl) (vo c_int))) (vo (v_ix (n_o 1 (pv 1) rfl) (vo c_int))))) a_nil)))))) ?_ rfl ?_
  · rintro as Q ⟨x, y, rfl, _⟩; rfl
  · rintro as Q ⟨x, y, rfl, hx, hy, hd, q⟩
    simp [rT, cRed]
    refine ⟨hx.n.ok hy.d, hy.n.ok hx.d, hx.d.ok hy.d, x.den_nz, y.den_nz, hd, ?_⟩
    rw [rat_add]; exact q
theorem b_added {k : Nat} {C : Ctr} (G : FnG P w K mg base CX0 k f fd (["one", "other"] : List Str) (spD K C)) (F : FunD K "added" "added" (defArgs s_added) (defBody s_added) (defScope s_added) [] [] f fd) (hm : mg "added" = some (.ref f)) : Hs P w K mg base "added" (["one", "other"] : List Str) k C := by
  refine hsF G hm F ?_
  intro kV doc pm an cdv ct us hl
  match us, hl with
  | [u0, u1], _ => rfl

theorem g_multiplied (F : FunD K "multiplied" "multiplied" (defArgs s_multiplied) (defBody s_multiplied) (defScope s_multiplied) [] [] f fd)  (h_reduced : Hs P w K mg base "reduced" ["above", "below"] 2 cRed) :
    FnG P w K mg base CX0 (3) f fd (["one", "other"] : List Str) (spD K cMulR) := by
  have S : FnScope (["one", "other"] : List Str) (["one", "other"] : List Str) (defScope s_multiplied) := ⟨rfl, rfl, rfl, by decide +kernel, rfl, by decide +kernel, by decide +kernel⟩
  have nd : (["one", "other"] : List Str).Nodup := by decide +kernel
  refine okF (k := 2) [] F S (fun cdv A outer s H E hr => (ss_one (s_ret (e_call h_reduced (hr.mono (by omega)) (a_val (ve (p_mul (vo (v_ix (n_o 0 (pv 0) rfl) (vo c_int))) (vo (v_ix (n_o 1 (pv 1) rfl) (vo c_int))))) (a_val (ve (p_mul (vo (v_ix (n_o 0 (pv 0) rfl) (vo c_int))) (vo (v_ix (n_o 1 (pv 1) rfl) (vo c_int))))) a_nil)))))) ?_ rfl ?_
  · rintro as Q ⟨x, y, rfl, _⟩; rfl
  · rintro as Q ⟨x, y, rfl, hx, hy, hd, q⟩
    simp [rT, cRed]
    refine ⟨hx.n.ok hy.n, hx.d.ok hy.d, x.den_nz, y.den_nz, hd, ?_⟩
    rw [rat_mul]; exact q
theorem b_multiplied {k : Nat} {C : Ctr} (G : FnG P w K mg base CX0 k f fd (["one", "other"] : List Str) (spD K C)) (F : FunD K "multiplied" "multiplied" (defArgs s_multiplied) (defBody s_multiplied) (defScope s_multiplied) [] [] f fd) (hm : mg "multiplied" = some (.ref f)) : Hs P w K mg base "multiplied" (["one", "other"] : List Str) k C := by
  refine hsF G hm F ?_
  intro kV doc pm an cdv ct us hl
  match us, hl with
  | [u0, u1], _ => rfl

theorem g_compared (F : FunD K "compared" "compared" (defArgs s_compared) (defBody s_compared) (defScope s_compared) [] [] f fd)  (m_int : mg "int" = none) :
    FnG P w K mg base CX0 (1) f fd (["one", "other"] : List Str) (spD K cCmp) := by
  have S : FnScope (["one", "other", "apart"] : List Str) (["one", "other"] : List Str) (defScope s_compared) := ⟨rfl, rfl, rfl, by decide +kernel, rfl, by decide +kernel, by decide +kernel⟩
  have nd : (["one", "other", "apart"] : List Str).Nodup := by decide +kernel
  refine okF (k := 0) [] F S (fun cdv A outer s H E hr => (ss_cons (s_set (i := 2) nd (ve (p_sub (vo (p_mul (vo (v_ix (n_o 0 (pv 0) rfl) (vo c_int))) (vo (v_ix (n_o 1 (pv 1) rfl) (vo c_int))))) (vo (p_mul (vo (v_ix (n_o 1 (pv 1) rfl) (vo c_int))) (vo (v_ix (n_o 0 (pv 0) rfl) (vo c_int))))))))
    (ss_one (s_ret (ve (p_sub (vo (p_int m_int (os_cons (vo (p_gt (n_o 2 (pv 2) rfl) (vo c_int))) os_nil))) (vo (p_int m_int (os_cons (vo (p_lt (n_o 2 (pv 2) rfl) (vo c_int))) os_nil))))))))) ?_ rfl ?_
  · rintro as Q ⟨x, y, rfl, _⟩; rfl
  · rintro as Q ⟨x, y, rfl, hx, hy, q⟩
    have h1 := less_iff x y
    have h2 := less_iff y x
    unfold cmpQ at q
    simp [rT]
    refine ⟨hx.n.ok hy.d, hy.n.ok hx.d, ?_⟩
    rcases Int.lt_trichotomy (x.num * (y.den : Int)) (y.num * (x.den : Int)) with h | h | h
    · rw [if_pos (h1.mp h)] at q
      exact .inl ⟨by omega, .inr ⟨by omega, q⟩⟩
    · rw [if_neg (fun z => by have := h1.mpr z; omega), if_neg (fun z => by have := h2.mpr z; omega)] at q
      exact .inl ⟨by omega, .inl ⟨by omega, q⟩⟩
    · rw [if_neg (fun z => by have := h1.mpr z; omega), if_pos (h2.mp h)] at q
      exact .inr ⟨h, .inl ⟨by omega, q⟩⟩
theorem b_compared {k : Nat} {C : Ctr} (G : FnG P w K mg base CX0 k f fd (["one", "other"] : List Str) (spD K C)) (F : FunD K "compared" "compared" (defArgs s_compared) (defBody s_compared) (defScope s_compared) [] [] f fd) (hm : mg "compared" = some (.ref f)) : Hs P w K mg base "compared" (["one", "other"] : List Str) k C := by
  refine hsF G hm F ?_
  intro kV doc pm an cdv ct us hl
  match us, hl with
  | [u0, u1], _ => rfl

theorem g_is_fraction (F : FunD K "is_fraction" "is_fraction" (defArgs s_is_fraction) (defBody s_is_fraction) (defScope s_is_fraction) [] [] f fd)  (h_divisor : Hs P w K mg base "divisor" ["one", "other"] 1 cDiv) (m_len : mg "len" = none) :
    FnG P w K mg base CX0 (2) f fd (["told"] : List Str) (spD K cIsF) := by
  have S : FnScope (["told"] : List Str) (["told"] : List Str) (defScope s_is_fraction) := ⟨rfl, rfl, rfl, by decide +kernel, rfl, by decide +kernel, by decide +kernel⟩
  have nd : (["told"] : List Str).Nodup := by decide +kernel
  refine okF (k := 1) [] F S (fun cdv A outer s H E hr => (ss_one (s_ret (ve (v_and (p_eq hr.r (vo (p_len m_len (os_cons (n_o 0 (pv 0) rfl) os_nil))) (vo c_int)) (v_and (p_ge (vo (v_ix (n_o 0 (pv 0) rfl) (vo c_int))) (vo c_int)) (v_one (p_eq hr.r (vo (ev (e_call h_divisor (hr.mono (by omega)) (a_val (ve (v_ix (n_o 0 (pv 0) rfl) (vo c_int))) (a_val (ve (v_ix (n_o 0 (pv 0) rfl) (vo c_int))) a_nil))))) (vo c_int))))))))) ?_ rfl ?_
  · rintro as Q ⟨q, rfl, _⟩; rfl
  · rintro as Q ⟨q, rfl, h⟩
    have h1 := rat_cop q
    have h2 := q.den_pos
    simp [cDiv, rT]
    exact .inr ⟨by omega, by simpa [h1, rT] using h⟩
theorem b_is_fraction {k : Nat} {C : Ctr} (G : FnG P w K mg base CX0 k f fd (["told"] : List Str) (spD K C)) (F : FunD K "is_fraction" "is_fraction" (defArgs s_is_fraction) (defBody s_is_fraction) (defScope s_is_fraction) [] [] f fd) (hm : mg "is_fraction" = some (.ref f)) : Hs P w K mg base "is_fraction" (["told"] : List Str) k C := by
  refine hsF G hm F ?_
  intro kV doc pm an cdv ct us hl
  match us, hl with
  | [u0], _ => rfl

theorem g_is_width (F : FunD K "is_width" "is_width" (defArgs s_is_width) (defBody s_is_width) (defScope s_is_width) [] [] f fd)  (h_is_fraction : Hs P w K mg base "is_fraction" ["told"] 2 cIsF) :
    FnG P w K mg base CX0 (3) f fd (["told"] : List Str) (spD K cIsW) := by
  have S : FnScope (["told"] : List Str) (["told"] : List Str) (defScope s_is_width) := ⟨rfl, rfl, rfl, by decide +kernel, rfl, by decide +kernel, by decide +kernel⟩
  have nd : (["told"] : List Str).Nodup := by decide +kernel
  refine okF (k := 2) [] F S (fun cdv A outer s H E hr => (ss_one (s_ret (ve (v_and (ev (e_call h_is_fraction (hr.mono (by omega)) (a_val (ve (n_v 0 (pv 0) rfl)) a_nil))) (v_one (p_gt (vo (v_ix (n_o 0 (pv 0) rfl) (vo c_int))) (vo c_int)))))))) ?_ rfl ?_
  · rintro as Q ⟨q, rfl, _⟩; rfl
  · rintro as Q ⟨q, rfl, hp, h⟩
    have hn : 0 < q.num := by
      have h1 : 0 ≤ q.num := Rat.num_nonneg.mpr (by grind)
      have h2 : q.num ≠ 0 := fun z => by have := Rat.num_eq_zero.mp z; grind
      omega
    simp [cIsF, rT]
    exact ⟨⟨q, rfl, rfl⟩, by simpa [hn, rT] using h⟩
theorem b_is_width {k : Nat} {C : Ctr} (G : FnG P w K mg base CX0 k f fd (["told"] : List Str) (spD K C)) (F : FunD K "is_width" "is_width" (defArgs s_is_width) (defBody s_is_width) (defScope s_is_width) [] [] f fd) (hm : mg "is_width" = some (.ref f)) : Hs P w K mg base "is_width" (["told"] : List Str) k C := by
  refine hsF G hm F ?_
  intro kV doc pm an cdv ct us hl
  match us, hl with
  | [u0], _ => rfl

theorem g_widths_at (F : FunD K "widths_at" "widths_at" (defArgs s_widths_at) (defBody s_widths_at) (defScope s_widths_at) [] [] f fd)  :
    FnG P w K mg base CX0 (1) f fd (["tanks", "width"] : List Str) (spD K cWidths) := by
  have S : FnScope (["tanks", "width", "one", "amount"] : List Str) (["tanks", "width"] : List Str) (defScope s_widths_at) := ⟨rfl, rfl, rfl, by decide +kernel, rfl, by decide +kernel, by decide +kernel⟩
  have nd : (["tanks", "width", "one", "amount"] : List Str).Nodup := by decide +kernel
  refine okF (k := 0) [] F S (fun cdv A outer s H E hr => (ss_one (s_ret (e_lc (own := [("one", 2), ("amount", 3)]) rfl nd (i_lt (n_v 0 (pv 0) rfl)) rfl (fun _ _ _ _ _ => (t_tup (n := 2) rfl (ts_cons (t_name (i := 2) nd) (ts_cons (t_name (i := 3) nd) ts_nil)))) (fun _ _ _ _ _ => ifs_nil) (fun _ _ _ _ _ => (e_if (q_isN (n_o 2 (pv 2) rfl) (vo c_non)) (ve (n_v 1 (pv 1) rfl)) (ve (v_tup (g_cons (ve (n_v 2 (pv 2) rfl)) (g_cons (ve c_int) g_nil)))))))))) ?_ rfl ?_
  · rintro as Q ⟨x, y, rfl, _⟩; rfl
  · rintro as Q ⟨vs, x, rfl, hn, q⟩
    simp
    refine lc_map (widD x) ?_ ?_ ?_ ?_
    · simp [sizeLine]; omega
    · simp [plainB]
    · intro d hd R hR
      obtain ⟨v, _, rfl⟩ := List.mem_map.mp hd
      obtain ⟨w, a⟩ := v
      cases w with
      | none =>
        simp [Vat.d, wipeR, unwipe, isN, tld]
        exact hR
      | some i =>
        simp [Vat.d, wipeR, unwipe, isN, tld]
        exact hR
    · rw [widD_all]
      exact q
theorem b_widths_at {k : Nat} {C : Ctr} (G : FnG P w K mg base CX0 k f fd (["tanks", "width"] : List Str) (spD K C)) (F : FunD K "widths_at" "widths_at" (defArgs s_widths_at) (defBody s_widths_at) (defScope s_widths_at) [] [] f fd) (hm : mg "widths_at" = some (.ref f)) : Hs P w K mg base "widths_at" (["tanks", "width"] : List Str) k C := by
  refine hsF G hm F ?_
  intro kV doc pm an cdv ct us hl
  match us, hl with
  | [u0, u1], _ => rfl

theorem g_levels_at (F : FunD K "levels_at" "levels_at" (defArgs s_levels_at) (defBody s_levels_at) (defScope s_levels_at) [] [] f fd)  (h_reduced : Hs P w K mg base "reduced" ["above", "below"] 2 cRed) (m_zip : mg "zip" = none) :
    FnG P w K mg base CX0 (3) f fd (["widths", "waters"] : List Str) (spD K cLevels) := by
  have S : FnScope (["widths", "waters", "water", "width"] : List Str) (["widths", "waters"] : List Str) (defScope s_levels_at) := ⟨rfl, rfl, rfl, by decide +kernel, rfl, by decide +kernel, by decide +kernel⟩
  have nd : (["widths", "waters", "water", "width"] : List Str).Nodup := by decide +kernel
  refine okF (k := 2) [] F S (fun cdv A outer s H E hr => (ss_one (s_ret (e_lc (own := [("water", 2), ("width", 3)]) rfl nd (i_za m_zip (g_cons (ve (n_v 1 (pv 1) rfl)) (g_cons (ve (n_v 0 (pv 0) rfl)) g_nil))) rfl (fun _ _ _ _ _ => (t_tup (n := 2) rfl (ts_cons (t_name (i := 2) nd) (ts_cons (t_name (i := 3) nd) ts_nil)))) (fun _ _ _ _ _ => ifs_nil) (fun _ _ _ _ _ => (e_call h_reduced (hr.mono (by omega)) (a_val (ve (p_mul (vo (v_ix (n_o 2 (pv 2) rfl) (vo c_int))) (vo (v_ix (n_o 3 (pv 3) rfl) (vo c_int))))) (a_val (ve (p_mul (vo (v_ix (n_o 2 (pv 2) rfl) (vo c_int))) (vo (v_ix (n_o 3 (pv 3) rfl) (vo c_int))))) a_nil)))))))) ?_ rfl ?_
  · rintro as Q ⟨b, x, D, ws, u, rfl, _⟩; rfl
  · rintro as Q ⟨b, x, D, ws, u, rfl, hl, hn, hD, sD, hu, hw, hx, q⟩
    cases b
    · simp [dW_t, dW_f, dQ]
      rw [zipD_rats]
      refine lc_map levD ?_ ?_ ?_ ?_
      · simp [sizeLine]; omega
      · simp [plainB]
      · intro d hd R hR
        obtain ⟨⟨a, b⟩, m, rfl⟩ := List.mem_map.mp hd
        have ma := (List.of_mem_zip m).1
        have mb := (List.of_mem_zip m).2
        obtain ⟨qa, da⟩ := hu.sz hD sD ma
        obtain ⟨qb, b0, _, _⟩ := hw.sz hx mb
        have bn := num_pos b0
        simp [rT, wipeR, unwipe, cRed]
        exact ⟨qa.n.ok qb.d, qa.d.ok qb.n, a.den_nz, (fun e => by rw [e] at bn; simp at bn), (da.mul qb.n).mono (by decide), hR⟩
      · rw [levD_all u ws hw.p]
        exact q
    · simp [dW_t, dW_f, dQ]
      rw [zipD_rats]
      refine lc_map levD ?_ ?_ ?_ ?_
      · simp [sizeLine]; omega
      · simp [plainB]
      · intro d hd R hR
        obtain ⟨⟨a, b⟩, m, rfl⟩ := List.mem_map.mp hd
        have ma := (List.of_mem_zip m).1
        have mb := (List.of_mem_zip m).2
        obtain ⟨qa, da⟩ := hu.sz hD sD ma
        obtain ⟨qb, b0, _, _⟩ := hw.sz hx mb
        have bn := num_pos b0
        simp [rT, wipeR, unwipe, cRed]
        exact ⟨qa.n.ok qb.d, qa.d.ok qb.n, a.den_nz, (fun e => by rw [e] at bn; simp at bn), (da.mul qb.n).mono (by decide), hR⟩
      · rw [levD_all u ws hw.p]
        exact q
theorem b_levels_at {k : Nat} {C : Ctr} (G : FnG P w K mg base CX0 k f fd (["widths", "waters"] : List Str) (spD K C)) (F : FunD K "levels_at" "levels_at" (defArgs s_levels_at) (defBody s_levels_at) (defScope s_levels_at) [] [] f fd) (hm : mg "levels_at" = some (.ref f)) : Hs P w K mg base "levels_at" (["widths", "waters"] : List Str) k C := by
  refine hsF G hm F ?_
  intro kV doc pm an cdv ct us hl
  match us, hl with
  | [u0, u1], _ => rfl

theorem g_valve_at (F : FunD K "valve_at" "valve_at" (defArgs s_valve_at) (defBody s_valve_at) (defScope s_valve_at) [] [] f fd)  (h_added : Hs P w K mg base "added" ["one", "other"] 3 cAddR) (h_reduced : Hs P w K mg base "reduced" ["above", "below"] 2 cRed) (h_multiplied : Hs P w K mg base "multiplied" ["one", "other"] 3 cMulR) (m_list : mg "list" = none) :
    FnG P w K mg base CX0 (4) f fd (["widths", "waters", "tanks"] : List Str) (spD K cValve) := by
  have S : FnScope (["widths", "waters", "tanks", "whole", "wide", "found", "tank", "level"] : List Str) (["widths", "waters", "tanks"] : List Str) (defScope s_valve_at) := ⟨rfl, rfl, rfl, by decide +kernel, rfl, by decide +kernel, by decide +kernel⟩
  have nd : (["widths", "waters", "tanks", "whole", "wide", "found", "tank", "level"] : List Str).Nodup := by decide +kernel
  refine okF (k := 3) [] F S (fun cdv A outer s H E hr => (ss_cons (s_par3 (i := 3) (j := 4) (l := 5) rfl nd (g_cons (ve (v_tup (g_cons (ve c_int) (g_cons (ve c_int) g_nil)))) (g_cons (ve (v_tup (g_cons (ve c_int) (g_cons (ve c_int) g_nil)))) (g_cons (e_list m_list (n_o 1 (pv 1) rfl)) g_nil))))
    (ss_cons (s_for PassesOwn.never rfl (i_lt (n_v 2 (pv 2) rfl)) (t_name (i := 6) nd) (ss_one (s_par (i := 3) (j := 4) rfl nd (g_cons (ve (ev (e_call h_added (hr.mono (by omega)) (a_val (ve (n_v 3 (pv 3) rfl)) (a_val (ve (v_ix (n_o 1 (pv 1) rfl) (n_o 6 (pv 6) rfl))) a_nil))))) (g_cons (ve (ev (e_call h_added (hr.mono (by omega)) (a_val (ve (n_v 4 (pv 4) rfl)) (a_val (ve (v_ix (n_o 0 (pv 0) rfl) (n_o 6 (pv 6) rfl))) a_nil))))) g_nil)))))
    (ss_cons (s_set (i := 7) nd (ve (ev (e_call h_reduced (hr.mono (by omega)) (a_val (ve (p_mul (vo (v_ix (n_o 3 (pv 3) rfl) (vo c_int))) (vo (v_ix (n_o 4 (pv 4) rfl) (vo c_int))))) (a_val (ve (p_mul (vo (v_ix (n_o 3 (pv 3) rfl) (vo c_int))) (vo (v_ix (n_o 4 (pv 4) rfl) (vo c_int))))) a_nil))))))
    (ss_cons (s_for PassesOwn.never rfl (i_lt (n_v 2 (pv 2) rfl)) (t_name (i := 6) nd) (ss_one (s_setit 5 (pv 5) rfl (ev (e_call h_multiplied (hr.mono (by omega)) (a_val (ve (n_v 7 (pv 7) rfl)) (a_val (ve (v_ix (n_o 0 (pv 0) rfl) (n_o 6 (pv 6) rfl))) a_nil)))) (n_o 6 (pv 6) rfl))))
    (ss_one (s_ret (n_mv 5 (pv 5) rfl)))))))) ?_ rfl ?_
  · rintro as Q ⟨b, x, D, ws, u, ks, rfl, _⟩; rfl
  · rintro as Q ⟨b, x, D, ws, u, ks, rfl, hl, hn, hD, sD, hu, hw, hx, he, q⟩
    cases b
    · obtain ⟨k1, k2, k3, k4⟩ := he
      have wp : ∀ q ∈ ws, 0 ≤ q := fun q m => by have := hw.p q m; grind
      have wb : ∀ q ∈ ws, q ≤ ((2 ^ 51 : Nat) : Rat) := fun q m => (hw.sz hx m).2.2.2
      have wd : ∀ q ∈ ws, Dn x.den q := fun q m => (hw.sz hx m).2.2.1
      have kt : ∀ i, ∀ k ∈ ks.take i, k < u.length := fun i k m => k4 k (List.mem_of_mem_take m)
      have ktw : ∀ i, ∀ k ∈ ks.take i, k < ws.length := fun i k m => by rw [hl]; exact kt i k m
      have lt : ∀ i, (ks.take i).length ≤ 20 := fun i => by simp; omega
      have qW : ∀ i, Qb 4030 (sumK u (ks.take i)) ∧ Sm 4000 ((sumK u (ks.take i)).den : Int) := fun i => sumW hu hD sD (kt i) (lt i)
      have qV : ∀ i, Qb 120 (sumK ws (ks.take i)) ∧ Sm 51 ((sumK ws (ks.take i)).den : Int) := fun i => sumV hw hx (ktw i) (lt i)
      refine cut (fun ρ => ρ = [some (.dat (dW .l ws)), some (.dat (dQ u)), some (.dat (dI (nI ks))), some (.dat (rT 0)), some (.dat (rT 0)), some (oQ u), none, none]) ?_ fun g hg => ?_
      rotate_left
      · simp [dW_t, dW_f, dQ]
        exact hg _ (by simp [dW_t, dW_f, dQ, oQ, rT, Function.comp_def])
      rintro ρ rfl
      refine cut (fun ρ => ∃ x6 : Option SV, ρ = [some (.dat (dW .l ws)), some (.dat (dQ u)), some (.dat (dI (nI ks))), some (.dat (rT (sumK u ks))), some (.dat (rT (sumK ws ks))), some (oQ u), x6, none]) ?_ fun g hg => ?_
      rotate_left
      · simp [dI]
        refine for_inv (fun i ρ => ∃ x6 : Option SV, ρ = [some (.dat (dW .l ws)), some (.dat (dQ u)), some (.dat (dI (nI ks))), some (.dat (rT (sumK u (ks.take i)))), some (.dat (rT (sumK ws (ks.take i)))), some (oQ u), x6, none]) ⟨none, by simp [sumK, dI]⟩ ?_ ?_
        · rintro i d ρ hd ⟨x6, rfl⟩
          obtain ⟨k, hk, rfl⟩ := nI_get hd
          have km := List.mem_of_getElem? hk
          have ku := k4 k km
          have e1 := ratsD_n ku
          have e2 := ratsD_n (F := ws) (k := k) (by omega)
          refine ⟨by simp, halt fun g2 hg2 => ?_⟩
          obtain ⟨a1, a2⟩ := qW i
          obtain ⟨v1, v2⟩ := qV i
          obtain ⟨c1, c2⟩ := hu.sz hD sD (getD_memQ ku)
          obtain ⟨g1, _, _, _⟩ := hw.sz hx (getD_memQ (u := ws) (k := k) (by omega))
          have s1 := sumK_snoc u (ks.take i) k
          have s2 := sumK_snoc ws (ks.take i) k
          rw [← take_succ hk] at s1 s2
          simp [dW_t, dW_f, dQ]
          refine ⟨_, e1, ?_⟩
          refine ⟨_, _, rfl, a1.mono (by decide), c1.mono (by decide), (a2.mul c2).mono (by decide), ?_⟩
          simp
          refine ⟨_, e2, _, _, rfl, v1.mono (by decide), g1.mono (by decide), (v2.mul g1.d).mono (by decide), ?_⟩
          simp
          simp only [List.getD_eq_getElem?_getD] at s1 s2
          rw [← s1, ← s2]
          exact hg2 _ ⟨_, rfl⟩
        · rintro ρ ⟨x6, rfl⟩
          have e : ((nI ks).map DD.int).length = ks.length := by simp [nI]
          rw [e, List.take_length]
          exact hg _ ⟨x6, rfl⟩
      rintro ρ ⟨x6, rfl⟩
      have hW := qW ks.length
      have hV := qV ks.length
      rw [List.take_length] at hW hV
      have kw : ∀ k ∈ ks, k < ws.length := fun k m => by rw [hl]; exact k4 k m
      have vp := sumV_pos hw.p kw (fun e => by rw [e] at k1; simp at k1)
      have vn := num_pos vp
      obtain ⟨l1, l2⟩ := div_sz hW.1 hV.1 vp hW.2
      have eL := rat_div (sumK u ks) (sumK ws ks) vp
      have q1 : Q (oQ (putK (sumK u ks / sumK ws ks) ws u ks)) _ := q
      refine cut (fun ρ => ρ = [some (.dat (dW .l ws)), some (.dat (dQ u)), some (.dat (dI (nI ks))), some (.dat (rT (sumK u ks))), some (.dat (rT (sumK ws ks))), some (oQ u), x6, some (.dat (rT (sumK u ks / sumK ws ks)))]) ?_ fun g hg => ?_
      rotate_left
      · generalize sumK u ks = a at *
        generalize sumK ws ks = b at *
        simp [rT, cRed]
        refine ⟨hW.1.n.ok hV.1.d, hW.1.d.ok hV.1.n, a.den_nz, (fun e => by rw [e] at vn; simp at vn), (hW.2.mul hV.1.n).mono (by decide), ?_⟩
        rw [eL]
        exact hg _ rfl
      rintro ρ rfl
      generalize sumK u ks / sumK ws ks = Lv at *
      simp [dI]
      refine for_inv (fun i ρ => ∃ x6 : Option SV, ρ = [some (.dat (dW .l ws)), some (.dat (dQ u)), some (.dat (dI (nI ks))), some (.dat (rT (sumK u ks))), some (.dat (rT (sumK ws ks))), some (oQ (putK Lv ws u (ks.take i))), x6, some (.dat (rT Lv))]) ⟨x6, rfl⟩ ?_ ?_
      · rintro i d ρ hd ⟨x6, rfl⟩
        obtain ⟨k, hk, rfl⟩ := nI_get hd
        have km := List.mem_of_getElem? hk
        have ku := k4 k km
        have e2 := ratsD_n (F := ws) (k := k) (by omega)
        obtain ⟨g1, _, _, _⟩ := hw.sz hx (getD_memQ (u := ws) (k := k) (by omega))
        have s1 := putK_snoc Lv ws u (ks.take i) k
        rw [← take_succ hk] at s1
        have ln := putK_len Lv ws u (ks.take i)
        refine ⟨by simp, halt fun g2 hg2 => ?_⟩
        simp [dW_t, dW_f, dQ]
        refine ⟨_, e2, _, _, rfl, l1.mono (by decide), g1.mono (by decide), (l2.mul g1.d).mono (by decide), ?_⟩
        simp [oQ]
        refine ⟨k, ixN_nat (by rw [ln]; exact ku), ?_⟩
        refine hg2 _ ⟨some (.dat (.int k)), ?_⟩
        rw [s1]
        simp [oQ, dQ, List.map_set]
      · rintro ρ ⟨x6, rfl⟩
        have e : ((nI ks).map DD.int).length = ks.length := by simp [nI]
        rw [e, List.take_length]
        simp
        exact q1
    · obtain ⟨k1, k2, k3, k4⟩ := he
      have wp : ∀ q ∈ ws, 0 ≤ q := fun q m => by have := hw.p q m; grind
      have wb : ∀ q ∈ ws, q ≤ ((2 ^ 51 : Nat) : Rat) := fun q m => (hw.sz hx m).2.2.2
      have wd : ∀ q ∈ ws, Dn x.den q := fun q m => (hw.sz hx m).2.2.1
      have kt : ∀ i, ∀ k ∈ ks.take i, k < u.length := fun i k m => k4 k (List.mem_of_mem_take m)
      have ktw : ∀ i, ∀ k ∈ ks.take i, k < ws.length := fun i k m => by rw [hl]; exact kt i k m
      have lt : ∀ i, (ks.take i).length ≤ 20 := fun i => by simp; omega
      have qW : ∀ i, Qb 4030 (sumK u (ks.take i)) ∧ Sm 4000 ((sumK u (ks.take i)).den : Int) := fun i => sumW hu hD sD (kt i) (lt i)
      have qV : ∀ i, Qb 120 (sumK ws (ks.take i)) ∧ Sm 51 ((sumK ws (ks.take i)).den : Int) := fun i => sumV hw hx (ktw i) (lt i)
      refine cut (fun ρ => ρ = [some (.dat (dW .t ws)), some (.dat (dQ u)), some (.dat (dI (nI ks))), some (.dat (rT 0)), some (.dat (rT 0)), some (oQ u), none, none]) ?_ fun g hg => ?_
      rotate_left
      · simp [dW_t, dW_f, dQ]
        exact hg _ (by simp [dW_t, dW_f, dQ, oQ, rT, Function.comp_def])
      rintro ρ rfl
      refine cut (fun ρ => ∃ x6 : Option SV, ρ = [some (.dat (dW .t ws)), some (.dat (dQ u)), some (.dat (dI (nI ks))), some (.dat (rT (sumK u ks))), some (.dat (rT (sumK ws ks))), some (oQ u), x6, none]) ?_ fun g hg => ?_
      rotate_left
      · simp [dI]
        refine for_inv (fun i ρ => ∃ x6 : Option SV, ρ = [some (.dat (dW .t ws)), some (.dat (dQ u)), some (.dat (dI (nI ks))), some (.dat (rT (sumK u (ks.take i)))), some (.dat (rT (sumK ws (ks.take i)))), some (oQ u), x6, none]) ⟨none, by simp [sumK, dI]⟩ ?_ ?_
        · rintro i d ρ hd ⟨x6, rfl⟩
          obtain ⟨k, hk, rfl⟩ := nI_get hd
          have km := List.mem_of_getElem? hk
          have ku := k4 k km
          have e1 := ratsD_n ku
          have e2 := ratsD_n (F := ws) (k := k) (by omega)
          refine ⟨by simp, halt fun g2 hg2 => ?_⟩
          obtain ⟨a1, a2⟩ := qW i
          obtain ⟨v1, v2⟩ := qV i
          obtain ⟨c1, c2⟩ := hu.sz hD sD (getD_memQ ku)
          obtain ⟨g1, _, _, _⟩ := hw.sz hx (getD_memQ (u := ws) (k := k) (by omega))
          have s1 := sumK_snoc u (ks.take i) k
          have s2 := sumK_snoc ws (ks.take i) k
          rw [← take_succ hk] at s1 s2
          simp [dW_t, dW_f, dQ]
          refine ⟨_, e1, ?_⟩
          refine ⟨_, _, rfl, a1.mono (by decide), c1.mono (by decide), (a2.mul c2).mono (by decide), ?_⟩
          simp
          refine ⟨_, e2, _, _, rfl, v1.mono (by decide), g1.mono (by decide), (v2.mul g1.d).mono (by decide), ?_⟩
          simp
          simp only [List.getD_eq_getElem?_getD] at s1 s2
          rw [← s1, ← s2]
          exact hg2 _ ⟨_, rfl⟩
        · rintro ρ ⟨x6, rfl⟩
          have e : ((nI ks).map DD.int).length = ks.length := by simp [nI]
          rw [e, List.take_length]
          exact hg _ ⟨x6, rfl⟩
      rintro ρ ⟨x6, rfl⟩
      have hW := qW ks.length
      have hV := qV ks.length
      rw [List.take_length] at hW hV
      have kw : ∀ k ∈ ks, k < ws.length := fun k m => by rw [hl]; exact k4 k m
      have vp := sumV_pos hw.p kw (fun e => by rw [e] at k1; simp at k1)
      have vn := num_pos vp
      obtain ⟨l1, l2⟩ := div_sz hW.1 hV.1 vp hW.2
      have eL := rat_div (sumK u ks) (sumK ws ks) vp
      have q1 : Q (oQ (putK (sumK u ks / sumK ws ks) ws u ks)) _ := q
      refine cut (fun ρ => ρ = [some (.dat (dW .t ws)), some (.dat (dQ u)), some (.dat (dI (nI ks))), some (.dat (rT (sumK u ks))), some (.dat (rT (sumK ws ks))), some (oQ u), x6, some (.dat (rT (sumK u ks / sumK ws ks)))]) ?_ fun g hg => ?_
      rotate_left
      · generalize sumK u ks = a at *
        generalize sumK ws ks = b at *
        simp [rT, cRed]
        refine ⟨hW.1.n.ok hV.1.d, hW.1.d.ok hV.1.n, a.den_nz, (fun e => by rw [e] at vn; simp at vn), (hW.2.mul hV.1.n).mono (by decide), ?_⟩
        rw [eL]
        exact hg _ rfl
      rintro ρ rfl
      generalize sumK u ks / sumK ws ks = Lv at *
      simp [dI]
      refine for_inv (fun i ρ => ∃ x6 : Option SV, ρ = [some (.dat (dW .t ws)), some (.dat (dQ u)), some (.dat (dI (nI ks))), some (.dat (rT (sumK u ks))), some (.dat (rT (sumK ws ks))), some (oQ (putK Lv ws u (ks.take i))), x6, some (.dat (rT Lv))]) ⟨x6, rfl⟩ ?_ ?_
      · rintro i d ρ hd ⟨x6, rfl⟩
        obtain ⟨k, hk, rfl⟩ := nI_get hd
        have km := List.mem_of_getElem? hk
        have ku := k4 k km
        have e2 := ratsD_n (F := ws) (k := k) (by omega)
        obtain ⟨g1, _, _, _⟩ := hw.sz hx (getD_memQ (u := ws) (k := k) (by omega))
        have s1 := putK_snoc Lv ws u (ks.take i) k
        rw [← take_succ hk] at s1
        have ln := putK_len Lv ws u (ks.take i)
        refine ⟨by simp, halt fun g2 hg2 => ?_⟩
        simp [dW_t, dW_f, dQ]
        refine ⟨_, e2, _, _, rfl, l1.mono (by decide), g1.mono (by decide), (l2.mul g1.d).mono (by decide), ?_⟩
        simp [oQ]
        refine ⟨k, ixN_nat (by rw [ln]; exact ku), ?_⟩
        refine hg2 _ ⟨some (.dat (.int k)), ?_⟩
        rw [s1]
        simp [oQ, dQ, List.map_set]
      · rintro ρ ⟨x6, rfl⟩
        have e : ((nI ks).map DD.int).length = ks.length := by simp [nI]
        rw [e, List.take_length]
        simp
        exact q1
theorem b_valve_at {k : Nat} {C : Ctr} (G : FnG P w K mg base CX0 k f fd (["widths", "waters", "tanks"] : List Str) (spD K C)) (F : FunD K "valve_at" "valve_at" (defArgs s_valve_at) (defBody s_valve_at) (defScope s_valve_at) [] [] f fd) (hm : mg "valve_at" = some (.ref f)) : Hs P w K mg base "valve_at" (["widths", "waters", "tanks"] : List Str) k C := by
  refine hsF G hm F ?_
  intro kV doc pm an cdv ct us hl
  match us, hl with
  | [u0, u1, u2], _ => rfl

theorem g_step_at (F : FunD K "step_at" "step_at" (defArgs s_step_at) (defBody s_step_at) (defScope s_step_at) [] [] f fd)  (h_valve_at : Hs P w K mg base "valve_at" ["widths", "waters", "tanks"] 4 cValve) (h_added : Hs P w K mg base "added" ["one", "other"] 3 cAddR) (h_multiplied : Hs P w K mg base "multiplied" ["one", "other"] 3 cMulR) (m_list : mg "list" = none) :
    FnG P w K mg base CX0 (5) f fd (["widths", "waters", "step"] : List Str) (spD K cStep) := by
  have S : FnScope (["widths", "waters", "step", "word", "tank", "found", "moved"] : List Str) (["widths", "waters", "step"] : List Str) (defScope s_step_at) := ⟨rfl, rfl, rfl, by decide +kernel, rfl, by decide +kernel, by decide +kernel⟩
  have nd : (["widths", "waters", "step", "word", "tank", "found", "moved"] : List Str).Nodup := by decide +kernel
  refine okF (k := 4) [] F S (fun cdv A outer s H E hr => (ss_cons (s_par (i := 3) (j := 4) rfl nd (g_cons (ve (v_ix (n_o 2 (pv 2) rfl) (vo c_int))) (g_cons (ve (v_ix (n_o 2 (pv 2) rfl) (vo c_int))) g_nil)))
    (ss_cons (s_if (q_eqS (n_o 3 (pv 3) rfl) (vo c_str)) (ss_one (s_ret (e_call h_valve_at (hr.mono (by omega)) (a_val (ve (n_v 0 (pv 0) rfl)) (a_val (ve (n_v 1 (pv 1) rfl)) (a_val (ve (n_v 4 (pv 4) rfl)) a_nil)))))) ss_nil)
    (ss_cons (s_set (i := 5) nd (e_list m_list (n_o 1 (pv 1) rfl)))
    (ss_cons (s_if (q_eqS (n_o 3 (pv 3) rfl) (vo c_str)) (ss_cons (s_setit 5 (pv 5) rfl (ev (e_call h_added (hr.mono (by omega)) (a_val (ve (v_ix (n_o 5 (pv 5) rfl) (n_o 4 (pv 4) rfl))) (a_val (ve (v_tup (g_cons (ve (v_ix (n_o 2 (pv 2) rfl) (vo c_int))) (g_cons (ve c_int) g_nil)))) a_nil)))) (n_o 4 (pv 4) rfl))
    (ss_one (s_ret (n_mv 5 (pv 5) rfl)))) ss_nil)
    (ss_cons (s_set (i := 6) nd (ve (ev (e_call h_multiplied (hr.mono (by omega)) (a_val (ve (v_ix (n_o 5 (pv 5) rfl) (n_o 4 (pv 4) rfl))) (a_val (ve (v_ix (n_o 2 (pv 2) rfl) (vo (p_neg (vo c_int))))) a_nil))))))
    (ss_cons (s_setit 5 (pv 5) rfl (ev (e_call h_added (hr.mono (by omega)) (a_val (ve (v_ix (n_o 5 (pv 5) rfl) (n_o 4 (pv 4) rfl))) (a_val (ve (v_tup (g_cons (ve (p_neg (vo (v_ix (n_o 6 (pv 6) rfl) (vo c_int))))) (g_cons (ve (v_ix (n_o 6 (pv 6) rfl) (vo c_int))) g_nil)))) a_nil)))) (n_o 4 (pv 4) rfl))
    (ss_cons (s_if (q_eqS (n_o 3 (pv 3) rfl) (vo c_str)) (ss_one (s_setit 5 (pv 5) rfl (ev (e_call h_added (hr.mono (by omega)) (a_val (ve (v_ix (n_o 5 (pv 5) rfl) (vo (v_ix (n_o 2 (pv 2) rfl) (vo c_int))))) (a_val (ve (n_v 6 (pv 6) rfl)) a_nil)))) (vo (v_ix (n_o 2 (pv 2) rfl) (vo c_int))))) ss_nil)
    (ss_one (s_ret (n_mv 5 (pv 5) rfl))))))))))) ?_ rfl ?_
  · rintro as Q ⟨b, x, D, ws, u, e, rfl, _⟩; rfl
  · rintro as Q ⟨b, x, D, ws, u, e, rfl, hl, hn, hD, sD, hu, hw, hx, he, hne, q⟩
    cases e with
    | op ks =>
      simp [dQ, Deed.d, cValve]
      exact ⟨b, x, D, ws, rfl, u, rfl, ks, rfl, hl, hn, hD, sD, hu, hw, hx, he, q⟩
    | un i j => exact absurd rfl (hne i j)
    | pr k a =>
      obtain ⟨hk, a1, a2⟩ := he
      have e1 := ratsO_n hk
      obtain ⟨c1, c2⟩ := hu.sz hD sD (getD_memQ hk)
      simp [dQ, Deed.d, Function.comp_def]
      refine ⟨_, e1, _, (a : Rat), by simp [rT_int], c1.mono (by decide), (Qb.int (k := 30) (sm_of (b := 1000) (by omega) (by omega)) (by decide)).mono (by decide), (c2.mul (smc (k := 1) (n := ((a : Rat).den : Int)) (by simp))).mono (by decide), ?_⟩
      simp
      refine ⟨k, ixN_nat (by simpa using hk), ?_⟩
      rw [setO]
      simpa [oQ, stepW, Deed.d, dQ] using q
    | sc k p =>
      obtain ⟨hk, hp⟩ := he
      have e1 := ratsO_n hk
      obtain ⟨c1, c2⟩ := hu.sz hD sD (getD_memQ hk)
      have ps := hp.sz
      have ms := c1.mul ps.1
      have md := den_mul2 (u.getD k 0) p c2 ps.2
      simp [dQ, Deed.d, Function.comp_def]
      refine ⟨_, e1, _, rfl, _, _, rfl, c1.mono (by decide), ps.1.mono (by decide), (c2.mul ps.2).mono (by decide), ?_⟩
      simp only [List.getD_eq_getElem?_getD] at *
      simp
      refine ⟨_, e1, _, rfl, _, rfl, _, rfl, _, -(u[k]?.getD 0 * p), (by rw [rT_neg]), c1.mono (by decide), ms.neg.mono (by decide), (c2.mul md).mono (by decide), ?_⟩
      simp
      refine ⟨k, ixN_nat (by simpa using hk), ?_⟩
      rw [setO]
      simpa [oQ, stepW, Deed.d, dQ] using q
    | mv i j p =>
      obtain ⟨hi, hj, hij, hp⟩ := he
      have e1 := ratsO_n hi
      obtain ⟨c1, c2⟩ := hu.sz hD sD (getD_memQ hi)
      obtain ⟨d1, d2⟩ := hu.sz hD sD (getD_memQ hj)
      have ps := hp.sz
      have ms := c1.mul ps.1
      have md := den_mul2 (u.getD i 0) p c2 ps.2
      simp [dQ, Deed.d, Function.comp_def]
      refine ⟨_, e1, _, rfl, _, _, rfl, c1.mono (by decide), ps.1.mono (by decide), (c2.mul ps.2).mono (by decide), ?_⟩
      simp only [List.getD_eq_getElem?_getD] at *
      simp
      refine ⟨_, e1, _, rfl, _, rfl, _, rfl, _, -(u[i]?.getD 0 * p), (by rw [rT_neg]), c1.mono (by decide), ms.neg.mono (by decide), (c2.mul md).mono (by decide), ?_⟩
      simp
      refine ⟨i, ixN_nat (by simpa using hi), ?_⟩
      rw [setO]
      have hj2 : j < (u.set i (u[i]?.getD 0 + -(u[i]?.getD 0 * p))).length := by simpa using hj
      have e3 := ratsO_n hj2
      rw [List.getD_eq_getElem?_getD, List.getElem?_set_ne hij] at e3
      refine ⟨_, e3, _, _, rfl, d1.mono (by decide), ms.mono (by decide), (d2.mul md).mono (by decide), ?_⟩
      simp
      refine ⟨j, ixN_nat (by simpa using hj), ?_⟩
      rw [setO]
      simpa [oQ, stepW, Deed.d, dQ] using q
theorem b_step_at {k : Nat} {C : Ctr} (G : FnG P w K mg base CX0 k f fd (["widths", "waters", "step"] : List Str) (spD K C)) (F : FunD K "step_at" "step_at" (defArgs s_step_at) (defBody s_step_at) (defScope s_step_at) [] [] f fd) (hm : mg "step_at" = some (.ref f)) : Hs P w K mg base "step_at" (["widths", "waters", "step"] : List Str) k C := by
  refine hsF G hm F ?_
  intro kV doc pm an cdv ct us hl
  match us, hl with
  | [u0, u1, u2], _ => rfl

theorem g_ends_at (F : FunD K "ends_at" "ends_at" (defArgs s_ends_at) (defBody s_ends_at) (defScope s_ends_at) [] [] f fd)  (h_levels_at : Hs P w K mg base "levels_at" ["widths", "waters"] 3 cLevels) (h_compared : Hs P w K mg base "compared" ["one", "other"] 1 cCmp) :
    FnG P w K mg base CX0 (4) f fd (["widths", "waters", "step"] : List Str) (spD K cEnds) := by
  have S : FnScope (["widths", "waters", "step", "levels"] : List Str) (["widths", "waters", "step"] : List Str) (defScope s_ends_at) := ⟨rfl, rfl, rfl, by decide +kernel, rfl, by decide +kernel, by decide +kernel⟩
  have nd : (["widths", "waters", "step", "levels"] : List Str).Nodup := by decide +kernel
  refine okF (k := 3) [] F S (fun cdv A outer s H E hr => (ss_cons (s_if (q_neS (vo (v_ix (n_o 2 (pv 2) rfl) (vo c_int))) (vo c_str)) (ss_one (s_ret (ve c_bl))) ss_nil)
    (ss_cons (s_set (i := 3) nd (ve (ev (e_call h_levels_at (hr.mono (by omega)) (a_val (ve (n_v 0 (pv 0) rfl)) (a_val (ve (n_v 1 (pv 1) rfl)) a_nil))))))
    (ss_one (s_ret (ve (p_gt (vo (ev (e_call h_compared (hr.mono (by omega)) (a_val (ve (v_ix (n_o 3 (pv 3) rfl) (vo (v_ix (n_o 2 (pv 2) rfl) (vo c_int))))) (a_val (ve (v_ix (n_o 3 (pv 3) rfl) (vo (v_ix (n_o 2 (pv 2) rfl) (vo c_int))))) a_nil))))) (vo c_int)))))))) ?_ rfl ?_
  · rintro as Q ⟨b, x, D, ws, u, e, rfl, _⟩; rfl
  · rintro as Q ⟨b, x, D, ws, u, e, rfl, hl, hn, hD, sD, hu, hw, hx, he, q⟩
    cases e with
    | un i j =>
      obtain ⟨hi, hj, hij⟩ := he
      have ll := levs_len hl
      have ei := ratsD_n (F := levs ws u) (k := i) (by omega)
      have ej := ratsD_n (F := levs ws u) (k := j) (by omega)
      have sz : ∀ k : Nat, k < u.length → Qb 30000 ((levs ws u).getD k 0) := fun k hk => by
        obtain ⟨a1, a2⟩ := hu.sz hD sD (getD_memQ hk)
        obtain ⟨b1, b2, _, _⟩ := hw.sz hx (getD_memQ (u := ws) (k := k) (by omega))
        rw [levs_get hl hk]
        exact (div_sz a1 b1 b2 a2).1.mono (by decide)
      simp [Deed.d, cLevels]
      refine ⟨b, x, D, ws, rfl, u, rfl, hl, by omega, hD, sD, hu, hw, hx, ?_⟩
      simp [cCmp, oQ_data, dQ]
      refine ⟨_, ei, _, ej, _, rfl, _, rfl, sz i hi, sz j hj, ?_⟩
      simp [cmpQ_gt]
      simpa [endW, Deed.d, dQ] using q
    | op ks => simpa [Deed.d, endW] using q
    | pr k a => simpa [Deed.d, endW] using q
    | sc k p => simpa [Deed.d, endW] using q
    | mv i j p => simpa [Deed.d, endW] using q
theorem b_ends_at {k : Nat} {C : Ctr} (G : FnG P w K mg base CX0 k f fd (["widths", "waters", "step"] : List Str) (spD K C)) (F : FunD K "ends_at" "ends_at" (defArgs s_ends_at) (defBody s_ends_at) (defScope s_ends_at) [] [] f fd) (hm : mg "ends_at" = some (.ref f)) : Hs P w K mg base "ends_at" (["widths", "waters", "step"] : List Str) k C := by
  refine hsF G hm F ?_
  intro kV doc pm an cdv ct us hl
  match us, hl with
  | [u0, u1, u2], _ => rfl

theorem g_copied (F : FunD K "copied" "copied" (defArgs s_copied) (defBody s_copied) (defScope s_copied) [] [] f fd)  (n : Nat) (h_copied : Hs P w K mg base "copied" ["thing"] n (cCopy n)) (m_isinstance : mg "isinstance" = none) (m_list : mg "list" = none) (m_tuple : mg "tuple" = none) :
    FnG P w K mg base CX0 (n + 1) f fd (["thing"] : List Str) (spD K (cCopy (n + 1))) := by
  have S : FnScope (["thing", "part"] : List Str) (["thing"] : List Str) (defScope s_copied) := ⟨rfl, rfl, rfl, by decide +kernel, rfl, by decide +kernel, by decide +kernel⟩
  have nd : (["thing", "part"] : List Str).Nodup := by decide +kernel
  refine okF (k := n) [] F S (fun cdv A outer s H E hr => (ss_cons (s_if (t_val (p_isi m_isinstance (os_cons (n_o 0 (pv 0) rfl) (os_cons (vo (c_list m_list)) os_nil)))) (ss_one (s_ret (e_lc (own := [("part", 1)]) rfl nd (i_lt (n_v 0 (pv 0) rfl)) rfl (fun _ _ _ _ _ => (t_name (i := 1) nd)) (fun _ _ _ _ _ => ifs_nil) (fun _ _ _ _ _ => (e_call h_copied (hr.mono (by omega)) (a_val (ve (n_v 1 (pv 1) rfl)) a_nil)))))) ss_nil)
    (ss_cons (s_if (t_val (p_isi m_isinstance (os_cons (n_o 0 (pv 0) rfl) (os_cons (vo (c_tuple m_tuple)) os_nil)))) (ss_one (s_ret (e_tupT m_tuple (e_lc (own := [("part", 1)]) rfl nd (i_lt (n_v 0 (pv 0) rfl)) rfl (fun _ _ _ _ _ => (t_name (i := 1) nd)) (fun _ _ _ _ _ => ifs_nil) (fun _ _ _ _ _ => (e_call h_copied (hr.mono (by omega)) (a_val (ve (n_v 1 (pv 1) rfl)) a_nil))))))) ss_nil)
    (ss_one (s_ret (ve (n_v 0 (pv 0) rfl))))))) ?_ rfl ?_
  · rintro as Q ⟨d, rfl, _⟩; rfl
  · rintro as Q ⟨d, rfl, h, q⟩
    cases d <;> simp [okC, oIsi, dTy] at h ⊢
    case non => exact q
    case bl => exact q
    case int => exact q
    case str => exact q
    case lst l =>
      refine lc_map cp h.1 (by simp [plainB]) (fun d hd R hR => ?_) (by simpa [cp, cps_eq] using q)
      simp [wipeR, unwipe, cCopy]
      exact ⟨h.2 d hd, hR⟩
    case tup l =>
      refine lc_map cp h.1 (by simp [plainB]) (fun d hd R hR => ?_) ?_
      · simp [wipeR, unwipe, cCopy]
        exact ⟨h.2 d hd, hR⟩
      · by_cases z : noLs l = true
        · refine .inr ⟨l, .inl ?_, by simpa [cp, z] using q⟩
          rw [SV.data, ← cps_eq, cps_data]
        · refine .inl ⟨_, rfl, by simpa [cp, z, cps_eq] using q⟩
theorem b_copied {k : Nat} {C : Ctr} (G : FnG P w K mg base CX0 k f fd (["thing"] : List Str) (spD K C)) (F : FunD K "copied" "copied" (defArgs s_copied) (defBody s_copied) (defScope s_copied) [] [] f fd) (hm : mg "copied" = some (.ref f)) : Hs P w K mg base "copied" (["thing"] : List Str) k C := by
  refine hsF G hm F ?_
  intro kV doc pm an cdv ct us hl
  match us, hl with
  | [u0], _ => rfl

theorem g__law_pv_copied (F : FunD K "_law_pv_copied" "_law_pv_copied" (defArgs s__law_pv_copied) (defBody s__law_pv_copied) (defScope s__law_pv_copied) [] [] f fd)  (n : Nat) (h__law_pv_copied : Hs P w K mg base "_law_pv_copied" ["thing"] n (cCopy n)) (m_isinstance : mg "isinstance" = none) (m_list : mg "list" = none) (m_tuple : mg "tuple" = none) :
    FnG P w K mg base CX0 (n + 1) f fd (["thing"] : List Str) (spD K (cCopy (n + 1))) := by
  have S : FnScope (["thing", "part"] : List Str) (["thing"] : List Str) (defScope s__law_pv_copied) := ⟨rfl, rfl, rfl, by decide +kernel, rfl, by decide +kernel, by decide +kernel⟩
  have nd : (["thing", "part"] : List Str).Nodup := by decide +kernel
  refine okF (k := n) [] F S (fun cdv A outer s H E hr => (ss_cons (s_if (t_val (p_isi m_isinstance (os_cons (n_o 0 (pv 0) rfl) (os_cons (vo (c_list m_list)) os_nil)))) (ss_one (s_ret (e_lc (own := [("part", 1)]) rfl nd (i_lt (n_v 0 (pv 0) rfl)) rfl (fun _ _ _ _ _ => (t_name (i := 1) nd)) (fun _ _ _ _ _ => ifs_nil) (fun _ _ _ _ _ => (e_call h__law_pv_copied (hr.mono (by omega)) (a_val (ve (n_v 1 (pv 1) rfl)) a_nil)))))) ss_nil)
    (ss_cons (s_if (t_val (p_isi m_isinstance (os_cons (n_o 0 (pv 0) rfl) (os_cons (vo (c_tuple m_tuple)) os_nil)))) (ss_one (s_ret (e_tupT m_tuple (e_lc (own := [("part", 1)]) rfl nd (i_lt (n_v 0 (pv 0) rfl)) rfl (fun _ _ _ _ _ => (t_name (i := 1) nd)) (fun _ _ _ _ _ => ifs_nil) (fun _ _ _ _ _ => (e_call h__law_pv_copied (hr.mono (by omega)) (a_val (ve (n_v 1 (pv 1) rfl)) a_nil))))))) ss_nil)
    (ss_one (s_ret (ve (n_v 0 (pv 0) rfl))))))) ?_ rfl ?_
  · rintro as Q ⟨d, rfl, _⟩; rfl
  · rintro as Q ⟨d, rfl, h, q⟩
    cases d <;> simp [okC, oIsi, dTy] at h ⊢
    case non => exact q
    case bl => exact q
    case int => exact q
    case str => exact q
    case lst l =>
      refine lc_map cp h.1 (by simp [plainB]) (fun d hd R hR => ?_) (by simpa [cp, cps_eq] using q)
      simp [wipeR, unwipe, cCopy]
      exact ⟨h.2 d hd, hR⟩
    case tup l =>
      refine lc_map cp h.1 (by simp [plainB]) (fun d hd R hR => ?_) ?_
      · simp [wipeR, unwipe, cCopy]
        exact ⟨h.2 d hd, hR⟩
      · by_cases z : noLs l = true
        · refine .inr ⟨l, .inl ?_, by simpa [cp, z] using q⟩
          rw [SV.data, ← cps_eq, cps_data]
        · refine .inl ⟨_, rfl, by simpa [cp, z, cps_eq] using q⟩
theorem b__law_pv_copied {k : Nat} {C : Ctr} (G : FnG P w K mg base CX0 k f fd (["thing"] : List Str) (spD K C)) (F : FunD K "_law_pv_copied" "_law_pv_copied" (defArgs s__law_pv_copied) (defBody s__law_pv_copied) (defScope s__law_pv_copied) [] [] f fd) (hm : mg "_law_pv_copied" = some (.ref f)) : Hs P w K mg base "_law_pv_copied" (["thing"] : List Str) k C := by
  refine hsF G hm F ?_
  intro kV doc pm an cdv ct us hl
  match us, hl with
  | [u0], _ => rfl

theorem g_check_tanks (F : FunD K "check_tanks" "check_tanks" (defArgs s_check_tanks) (defBody s_check_tanks) (defScope s_check_tanks) [] [] f fd)  (m_len : mg "len" = none) :
    FnG P w K mg base CX0 (1) f fd (["tanks"] : List Str) (spD K cChkT2) := by
  have S : FnScope (["tanks", "tank", "width", "amount"] : List Str) (["tanks"] : List Str) (defScope s_check_tanks) := ⟨rfl, rfl, rfl, by decide +kernel, rfl, by decide +kernel, by decide +kernel⟩
  have nd : (["tanks", "tank", "width", "amount"] : List Str).Nodup := by decide +kernel
  refine okF (k := 0) [] F S (fun cdv A outer s H E hr => (ss_cons (s_for PassesOwn.never rfl (i_lt (n_v 0 (pv 0) rfl)) (t_name (i := 1) nd) (ss_cons (s_asg (n_v 1 (pv 1) rfl) (t_tup (n := 2) rfl (ts_cons (t_name (i := 2) nd) (ts_cons (t_name (i := 3) nd) ts_nil))))
    (ss_one (s_if (t_w (w_or (t_w (w_and (q_notN (n_o 2 (pv 2) rfl) (vo c_non)) (w_and1 (q_lt (n_o 2 (pv 2) rfl) (vo c_int))))) (w_or1 (q_lt (n_o 3 (pv 3) rfl) (vo c_int))))) (ss_one s_never) ss_nil))))
    (ss_one (s_if (q_ne hr.r (vo (p_len m_len (os_cons (vo (ev (e_lc (own := [("tank", 1)]) rfl nd (i_lt (n_v 0 (pv 0) rfl)) rfl (fun _ _ _ _ _ => (t_name (i := 1) nd)) (fun _ _ _ _ _ => (ifs_one (q_isN (vo (v_ix (n_o 1 (pv 1) rfl) (vo c_int))) (vo c_non)))) (fun _ _ _ _ _ => (ve (n_v 1 (pv 1) rfl)))))) os_nil))) (vo c_int)) (ss_one s_never) ss_nil)))) ?_ rfl ?_
  · rintro as Q ⟨b, vs, rfl, _⟩; rfl
  · rintro as Q ⟨b, vs, rfl, hv, q⟩
    cases b
    · simp
      refine for_inv (fun i ρ => ∃ x1 x2 x3 : Option SV, ρ = [some (.dat (.lst (vs.map Vat.d))), x1, x2, x3] ∧ plainB ρ [1] = true) ⟨_, _, _, rfl, rfl⟩ ?_ ?_
      · rintro i d ρ hd ⟨x1, x2, x3, rfl, _⟩
        obtain ⟨v, m, rfl⟩ := List.mem_map.mp (List.mem_of_getElem? hd)
        obtain ⟨h1, h2, h3⟩ := hv.v v m
        obtain ⟨w, a⟩ := v
        refine ⟨by simp, halt fun g2 hg2 => ?_⟩
        have ha : ¬ a < 0 := by have : 0 ≤ a := h1; omega
        cases w with
        | none =>
          simp [Vat.d, ha]
          exact ⟨rfl, rfl, h1, hg2 _ ⟨_, _, _, rfl, rfl⟩⟩
        | some j =>
          have := h3 j rfl
          have hj : ¬ j < 1 := by omega
          simp [Vat.d, ha, hj]
          exact ⟨rfl, .inr ⟨rfl, this.1, h1, hg2 _ ⟨_, _, _, rfl, rfl⟩⟩⟩
      · rintro ρ ⟨x1, x2, x3, rfl, hp⟩
        have h1 := hv.one
        have h2 := hv.n
        simp
        refine lc_filt isNon .dat ?_ ?_ ?_ ?_
        · simp [sizeLine]; omega
        · exact hp
        · intro d hd R S hR hS
          obtain ⟨⟨w, a⟩, m, rfl⟩ := List.mem_map.mp hd
          cases w with
          | none =>
            have := hR rfl
            simp [wipeR, unwipe, Vat.d]
            exact ⟨rfl, this⟩
          | some j =>
            have := hS rfl
            simp [wipeR, unwipe, Vat.d]
            exact ⟨rfl, this⟩
        · simp
          exact ⟨by rw [nons_len, h1]; rfl, q⟩
    · simp
      refine for_inv (fun i ρ => ∃ x1 x2 x3 : Option SV, ρ = [some (.dat (.tup (vs.map Vat.d))), x1, x2, x3] ∧ plainB ρ [1] = true) ⟨_, _, _, rfl, rfl⟩ ?_ ?_
      · rintro i d ρ hd ⟨x1, x2, x3, rfl, _⟩
        obtain ⟨v, m, rfl⟩ := List.mem_map.mp (List.mem_of_getElem? hd)
        obtain ⟨h1, h2, h3⟩ := hv.v v m
        obtain ⟨w, a⟩ := v
        refine ⟨by simp, halt fun g2 hg2 => ?_⟩
        have ha : ¬ a < 0 := by have : 0 ≤ a := h1; omega
        cases w with
        | none =>
          simp [Vat.d, ha]
          exact ⟨rfl, rfl, h1, hg2 _ ⟨_, _, _, rfl, rfl⟩⟩
        | some j =>
          have := h3 j rfl
          have hj : ¬ j < 1 := by omega
          simp [Vat.d, ha, hj]
          exact ⟨rfl, .inr ⟨rfl, this.1, h1, hg2 _ ⟨_, _, _, rfl, rfl⟩⟩⟩
      · rintro ρ ⟨x1, x2, x3, rfl, hp⟩
        have h1 := hv.one
        have h2 := hv.n
        simp
        refine lc_filt isNon .dat ?_ ?_ ?_ ?_
        · simp [sizeLine]; omega
        · exact hp
        · intro d hd R S hR hS
          obtain ⟨⟨w, a⟩, m, rfl⟩ := List.mem_map.mp hd
          cases w with
          | none =>
            have := hR rfl
            simp [wipeR, unwipe, Vat.d]
            exact ⟨rfl, this⟩
          | some j =>
            have := hS rfl
            simp [wipeR, unwipe, Vat.d]
            exact ⟨rfl, this⟩
        · simp
          exact ⟨by rw [nons_len, h1]; rfl, q⟩
theorem b_check_tanks {k : Nat} {C : Ctr} (G : FnG P w K mg base CX0 k f fd (["tanks"] : List Str) (spD K C)) (F : FunD K "check_tanks" "check_tanks" (defArgs s_check_tanks) (defBody s_check_tanks) (defScope s_check_tanks) [] [] f fd) (hm : mg "check_tanks" = some (.ref f)) : Hs P w K mg base "check_tanks" (["tanks"] : List Str) k C := by
  refine hsF G hm F ?_
  intro kV doc pm an cdv ct us hl
  match us, hl with
  | [u0], _ => rfl

theorem g_is_step (F : FunD K "is_step" "is_step" (defArgs s_is_step) (defBody s_is_step) (defScope s_is_step) [] [] f fd)  (m_len : mg "len" = none) (m_sorted : mg "sorted" = none) (m_set : mg "set" = none) (g_SIZES : mg "SIZES" = some (.ref D_SIZES)) (t_SIZES : KTab K w D_SIZES tSIZES) :
    FnG P w K mg base CX0 (1) f fd (["step"] : List Str) (spD K cIsS) := by
  have S : FnScope (["step"] : List Str) (["step"] : List Str) (defScope s_is_step) := ⟨rfl, rfl, rfl, by decide +kernel, rfl, by decide +kernel, by decide +kernel⟩
  have nd : (["step"] : List Str).Nodup := by decide +kernel
  refine okF (k := 0) [] F S (fun cdv A outer s H E hr => (ss_cons (s_if (t_w (w_or (q_eq hr.r (n_o 0 (pv 0) rfl) (vo (v_tup g_nil))) (w_or (q_ninK t_SIZES (vo (v_ix (n_o 0 (pv 0) rfl) (vo c_int))) (vo (c_gref g_SIZES))) (w_or1 (q_ne hr.r (vo (p_len m_len (os_cons (n_o 0 (pv 0) rfl) os_nil))) (vo (v_ixK t_SIZES (vo (c_gref g_SIZES)) (vo (v_ix (n_o 0 (pv 0) rfl) (vo c_int)))))))))) (ss_one (s_ret (ve c_bl))) ss_nil)
    (ss_cons (s_if (q_eqS (vo (v_ix (n_o 0 (pv 0) rfl) (vo c_int))) (vo c_str)) (ss_one (s_ret (ve (v_and (p_gt (vo (p_len m_len (os_cons (vo (v_ix (n_o 0 (pv 0) rfl) (vo c_int))) os_nil))) (vo c_int)) (v_one (p_eq hr.r (vo (v_ix (n_o 0 (pv 0) rfl) (vo c_int))) (vo (ev (e_sortset rfl m_sorted m_set (vo (v_ix (n_o 0 (pv 0) rfl) (vo c_int)))))))))))) ss_nil)
    (ss_cons (s_if (q_eqS (vo (v_ix (n_o 0 (pv 0) rfl) (vo c_int))) (vo c_str)) (ss_one (s_ret (ve (p_ge (vo (v_ix (n_o 0 (pv 0) rfl) (vo c_int))) (vo c_int))))) ss_nil)
    (ss_one (s_ret (ve (v_or (p_eqS (vo (v_ix (n_o 0 (pv 0) rfl) (vo c_int))) (vo c_str)) (v_one (p_ne hr.r (vo (v_ix (n_o 0 (pv 0) rfl) (vo c_int))) (vo (v_ix (n_o 0 (pv 0) rfl) (vo c_int))))))))))))) ?_ rfl ?_
  · rintro as Q ⟨vs, n, rfl, _⟩; rfl
  · rintro as Q ⟨e, n, rfl, he, hn, q⟩
    have o := okD_deed e
    have z := eqD_deed e
    cases e with
    | op ks =>
      obtain ⟨k1, k2, k3, k4⟩ := he
      have l : (nI ks).length = ks.length := by simp [nI]
      have pw : (nI ks).Pairwise (· < ·) := nI_rise k3
      simp [Deed.d, dI, tSIZES]
      refine ⟨o, okD_tint (l := []), ?_⟩
      split
      · next h => exact absurd h z
      · refine .inr ⟨by rw [l]; omega, by omega, fun out p h => ?_⟩
        have e := sorted_same p pw h
        subst e
        have e2 : (oI (nI ks)).data = .lst ((nI ks).map .int) := oI_data _
        rw [e2]
        refine ⟨okD_lint, ?_⟩
        rw [eqD_lint, decide_eq_true rfl]
        exact q
    | pr k a =>
      obtain ⟨k1, k2, k3⟩ := he
      simp [Deed.d, dI, tSIZES]
      refine ⟨o, okD_tint (l := []), ?_⟩
      split
      · next h => exact absurd h z
      · rw [decide_eq_true k2]
        exact q
    | sc k p =>
      simp [Deed.d, dI, tSIZES, rT]
      refine ⟨o, okD_tint (l := []), ?_⟩
      split
      · next h => exact absurd h z
      · exact q
    | mv i j p =>
      obtain ⟨k1, k2, k3, k4⟩ := he
      simp [Deed.d, dI, tSIZES, rT]
      refine ⟨o, okD_tint (l := []), ?_⟩
      split
      · next h => exact absurd h z
      · rw [decide_eq_false (by omega)]
        exact q
    | un i j =>
      obtain ⟨k1, k2, k3⟩ := he
      simp [Deed.d, dI, tSIZES]
      refine ⟨o, okD_tint (l := []), ?_⟩
      split
      · next h => exact absurd h z
      · rw [decide_eq_false (by omega)]
        exact q
theorem b_is_step {k : Nat} {C : Ctr} (G : FnG P w K mg base CX0 k f fd (["step"] : List Str) (spD K C)) (F : FunD K "is_step" "is_step" (defArgs s_is_step) (defBody s_is_step) (defScope s_is_step) [] [] f fd) (hm : mg "is_step" = some (.ref f)) : Hs P w K mg base "is_step" (["step"] : List Str) k C := by
  refine hsF G hm F ?_
  intro kV doc pm an cdv ct us hl
  match us, hl with
  | [u0], _ => rfl

theorem g_tanks_of (F : FunD K "tanks_of" "tanks_of" (defArgs s_tanks_of) (defBody s_tanks_of) (defScope s_tanks_of) [] [] f fd)  (m_list : mg "list" = none) :
    FnG P w K mg base CX0 (1) f fd (["step"] : List Str) (spD K cTof) := by
  have S : FnScope (["step"] : List Str) (["step"] : List Str) (defScope s_tanks_of) := ⟨rfl, rfl, rfl, by decide +kernel, rfl, by decide +kernel, by decide +kernel⟩
  have nd : (["step"] : List Str).Nodup := by decide +kernel
  refine okF (k := 0) [] F S (fun cdv A outer s H E hr => (ss_cons (s_if (q_eqS (vo (v_ix (n_o 0 (pv 0) rfl) (vo c_int))) (vo c_str)) (ss_one (s_ret (e_list m_list (vo (v_ix (n_o 0 (pv 0) rfl) (vo c_int)))))) ss_nil)
    (ss_one (s_ret (e_if (q_in (vo (v_ix (n_o 0 (pv 0) rfl) (vo c_int))) (vo (v_tup (g_cons (ve c_str) (g_cons (ve c_str) g_nil))))) (e_lst (g_cons (ve (v_ix (n_o 0 (pv 0) rfl) (vo c_int))) g_nil)) (e_lst (g_cons (ve (v_ix (n_o 0 (pv 0) rfl) (vo c_int))) (g_cons (ve (v_ix (n_o 0 (pv 0) rfl) (vo c_int))) g_nil)))))))) ?_ rfl ?_
  · rintro as Q ⟨vs, n, rfl, _⟩; rfl
  · rintro as Q ⟨e, n, rfl, he, hn, q⟩
    cases e with
    | op ks =>
      obtain ⟨k1, k2, k3, k4⟩ := he
      have := q ks k2 k4
      simp [Deed.d, dI]
      exact this
    | pr k a =>
      have := q [k] (by simp) (by simpa using he.1)
      simp [Deed.d, dI]
      refine ⟨["pour", "scoop"], rfl, ?_⟩
      rw [if_pos (by simp)]
      exact this
    | sc k p =>
      have := q [k] (by simp) (by simpa using he.1)
      simp [Deed.d, dI, rT]
      refine ⟨["pour", "scoop"], rfl, ?_⟩
      rw [if_pos (by simp)]
      exact this
    | mv i j p =>
      have := q [i, j] (by simp) (by simpa using ⟨he.1, he.2.1⟩)
      simp [Deed.d, dI, rT]
      refine ⟨["pour", "scoop"], rfl, ?_⟩
      rw [if_neg (by simp)]
      exact this
    | un i j =>
      have := q [i, j] (by simp) (by simpa using ⟨he.1, he.2.1⟩)
      simp [Deed.d, dI]
      refine ⟨["pour", "scoop"], rfl, ?_⟩
      rw [if_neg (by simp)]
      exact this
theorem b_tanks_of {k : Nat} {C : Ctr} (G : FnG P w K mg base CX0 k f fd (["step"] : List Str) (spD K C)) (F : FunD K "tanks_of" "tanks_of" (defArgs s_tanks_of) (defBody s_tanks_of) (defScope s_tanks_of) [] [] f fd) (hm : mg "tanks_of" = some (.ref f)) : Hs P w K mg base "tanks_of" (["step"] : List Str) k C := by
  refine hsF G hm F ?_
  intro kV doc pm an cdv ct us hl
  match us, hl with
  | [u0], _ => rfl

theorem g_check_step (F : FunD K "check_step" "check_step" (defArgs s_check_step) (defBody s_check_step) (defScope s_check_step) [] [] f fd)  (h_is_step : Hs P w K mg base "is_step" ["step"] 1 cIsS) (h_tanks_of : Hs P w K mg base "tanks_of" ["step"] 1 cTof) (h_is_fraction : Hs P w K mg base "is_fraction" ["told"] 2 cIsF) :
    FnG P w K mg base CX0 (3) f fd (["step", "many"] : List Str) (spD K cChkS) := by
  have S : FnScope (["step", "many", "number", "part"] : List Str) (["step", "many"] : List Str) (defScope s_check_step) := ⟨rfl, rfl, rfl, by decide +kernel, rfl, by decide +kernel, by decide +kernel⟩
  have nd : (["step", "many", "number", "part"] : List Str).Nodup := by decide +kernel
  refine okF (k := 2) [] F S (fun cdv A outer s H E hr => (ss_cons (s_if (t_not (t_val (ev (e_call h_is_step (hr.mono (by omega)) (a_val (ve (n_v 0 (pv 0) rfl)) a_nil))))) (ss_one s_never) ss_nil)
    (ss_cons (s_for PassesOwn.never rfl (i_lt (ev (e_call h_tanks_of (hr.mono (by omega)) (a_val (ve (n_v 0 (pv 0) rfl)) a_nil)))) (t_name (i := 2) nd) (ss_one (s_if (t_not (q_chn op_le op_lt sc_B0 sc_B0 (vo c_int) (n_o 2 (pv 2) rfl) (n_o 1 (pv 1) rfl))) (ss_one s_never) ss_nil)))
    (ss_one (s_if (q_in (vo (v_ix (n_o 0 (pv 0) rfl) (vo c_int))) (vo (v_tup (g_cons (ve c_str) (g_cons (ve c_str) g_nil))))) (ss_cons (s_set (i := 3) nd (ve (v_ix (n_o 0 (pv 0) rfl) (vo (p_neg (vo c_int))))))
    (ss_one (s_if (t_w (w_or (t_not (t_val (ev (e_call h_is_fraction (hr.mono (by omega)) (a_val (ve (n_v 3 (pv 3) rfl)) a_nil))))) (w_or1 (t_not (q_chn op_le op_le sc_B0 sc_B0 (vo c_int) (vo (v_ix (n_o 3 (pv 3) rfl) (vo c_int))) (vo (v_ix (n_o 3 (pv 3) rfl) (vo c_int)))))))) (ss_one s_never) ss_nil))) ss_nil))))) ?_ rfl ?_
  · rintro as Q ⟨vs, n, rfl, _⟩; rfl
  · rintro as Q ⟨e, n, rfl, he, hn, q⟩
    simp [cIsS]
    refine ⟨e, rfl, n, he, hn, e, n, rfl, he, hn, fun ks h1 h2 => ?_⟩
    refine ⟨(nI ks).map .int, by rw [oI_data]; rfl, ?_⟩
    simp
    refine for_inv (fun i ρ => ∃ x : Option SV, ρ = [some (.dat e.d), some (.dat (.int n)), x, none]) ⟨_, rfl⟩ ?_ ?_
    · rintro i d ρ hd ⟨x, rfl⟩
      obtain ⟨k, hk, rfl⟩ := nI_get hd
      have km := h2 k (List.mem_of_getElem? hk)
      refine ⟨by simp, halt fun g2 hg2 => ?_⟩
      simp
      exact ⟨km, hg2 _ ⟨_, rfl⟩⟩
    · rintro ρ ⟨x, rfl⟩
      cases e with
      | op ks =>
        simp [Deed.d]
        refine ⟨["scoop", "move"], rfl, ?_⟩
        rw [if_neg (by simp)]
        exact q
      | pr k a =>
        simp [Deed.d]
        refine ⟨["scoop", "move"], rfl, ?_⟩
        rw [if_neg (by simp)]
        exact q
      | sc k p =>
        have h0 := he.2.n0
        have h1 := he.2.n1
        simp [Deed.d, cIsF]
        refine ⟨["scoop", "move"], rfl, ?_⟩
        rw [if_pos (by simp)]
        refine ⟨rT p, rfl, ⟨p, rfl⟩, ?_⟩
        simp [rT]
        exact ⟨he.2.1, h1, q⟩
      | mv i j p =>
        have h0 := he.2.2.2.n0
        have h1 := he.2.2.2.n1
        simp [Deed.d, cIsF]
        refine ⟨["scoop", "move"], rfl, ?_⟩
        rw [if_pos (by simp)]
        refine ⟨rT p, rfl, ⟨p, rfl⟩, ?_⟩
        simp [rT]
        exact ⟨he.2.2.2.1, h1, q⟩
      | un i j =>
        simp [Deed.d]
        refine ⟨["scoop", "move"], rfl, ?_⟩
        rw [if_neg (by simp)]
        exact q
theorem b_check_step {k : Nat} {C : Ctr} (G : FnG P w K mg base CX0 k f fd (["step", "many"] : List Str) (spD K C)) (F : FunD K "check_step" "check_step" (defArgs s_check_step) (defBody s_check_step) (defScope s_check_step) [] [] f fd) (hm : mg "check_step" = some (.ref f)) : Hs P w K mg base "check_step" (["step", "many"] : List Str) k C := by
  refine hsF G hm F ?_
  intro kV doc pm an cdv ct us hl
  match us, hl with
  | [u0, u1], _ => rfl

theorem g_Bench_init (F : FunD K "__init__" "Bench.__init__" (defArgs s_Bench_init) (defBody s_Bench_init) (defScope s_Bench_init) [] [] f fd)  (h_check_tanks : Hs P w K mg base "check_tanks" ["tanks"] 1 cChkT2) (h_is_width : Hs P w K mg base "is_width" ["told"] 3 cIsW) (h_widths_at : Hs P w K mg base "widths_at" ["tanks", "width"] 1 cWidths) (m_tuple : mg "tuple" = none) (cl_Bench : Cls K C_Bench) (na_first_tanks : NoAttr K C_Bench "first_tanks") (na_told_width : NoAttr K C_Bench "told_width") (na_all_widths : NoAttr K C_Bench "all_widths") (na_waters : NoAttr K C_Bench "waters") (na_done : NoAttr K C_Bench "done") (na_over_at : NoAttr K C_Bench "over_at") :
    FnG P w K mg base CX0 (4) f fd (["self", "tanks", "width"] : List Str) (spD K (cBInit C_Bench)) := by
  have S : FnScope (["self", "tanks", "width", "tank_width", "amount"] : List Str) (["self", "tanks", "width"] : List Str) (defScope s_Bench_init) := ⟨rfl, rfl, rfl, by decide +kernel, rfl, by decide +kernel, by decide +kernel⟩
  have nd : (["self", "tanks", "width", "tank_width", "amount"] : List Str).Nodup := by decide +kernel
  refine okF (k := 3) [0] F S (fun cdv A outer s H E hr => (ss_cons (s_expr (e_call h_check_tanks (hr.mono (by omega)) (a_val (ve (n_v 1 (pv 1) rfl)) a_nil)))
    (ss_cons (s_if (t_not (t_val (ev (e_call h_is_width (hr.mono (by omega)) (a_val (ve (n_v 2 (pv 2) rfl)) a_nil))))) (ss_one s_never) ss_nil)
    (ss_cons (s_pfld cl_Bench na_first_tanks (q_n 0 (pv 0) rfl) (ve (v_tuple m_tuple (ve (n_v 1 (pv 1) rfl)))))
    (ss_cons (s_pfld cl_Bench na_told_width (q_n 0 (pv 0) rfl) (ve (n_v 2 (pv 2) rfl)))
    (ss_cons (s_pfld cl_Bench na_all_widths (q_n 0 (pv 0) rfl) (ve (v_tuple m_tuple (e_call h_widths_at (hr.mono (by omega)) (a_val (ve (n_v 1 (pv 1) rfl)) (a_val (ve (n_v 2 (pv 2) rfl)) a_nil))))))
    (ss_cons (s_pfld cl_Bench na_waters (q_n 0 (pv 0) rfl) (e_lst (g_cons (e_lc (own := [("tank_width", 3), ("amount", 4)]) rfl nd (i_lt (n_v 1 (pv 1) rfl)) rfl (fun _ _ _ _ _ => (t_tup (n := 2) rfl (ts_cons (t_name (i := 3) nd) (ts_cons (t_name (i := 4) nd) ts_nil)))) (fun _ _ _ _ _ => ifs_nil) (fun _ _ _ _ _ => (ve (v_tup (g_cons (ve (n_v 4 (pv 4) rfl)) (g_cons (ve c_int) g_nil)))))) g_nil)))
    (ss_cons (s_pfld cl_Bench na_done (q_n 0 (pv 0) rfl) (e_lst g_nil))
    (ss_one (s_pfld cl_Bench na_over_at (q_n 0 (pv 0) rfl) (ve c_non))))))))))) ?_ rfl ?_
  · rintro as Q ⟨vs, x, rfl, _⟩; rfl
  · rintro as Q ⟨vs, x, rfl, hv, hx, q⟩
    have vl := hv.n
    have e1 : (oQ (vs.map (wid x))).data = .lst ((vs.map (wid x)).map rT) := oQ_data _
    simp [cChkT2, cIsW]
    refine ⟨.l, vs, rfl, hv, hx, pu1, vs, x, rfl, by omega, _, .inl e1, ?_⟩
    simp
    refine ⟨pu2, ?_⟩
    refine lc_map amtD ?_ ?_ ?_ ?_
    · simp [sizeLine]; omega
    · simp [plainB]
    · intro d hm R hR
      obtain ⟨⟨w, a⟩, m, rfl⟩ := List.mem_map.mp hm
      simp [Vat.d, wipeR, unwipe]
      cases w <;> exact hR
    · rw [amtD_all]
      simp
      refine ⟨pu3, pu4, pu5, ?_⟩
      rw [← List.map_map]
      refine q (.ob C_Bench (bF ⟨vs, x, [], false⟩ .non [oQ (amts vs)] [])) ⟨_, _, rfl, ?_, rfl⟩ ?_
      · rw [List.map_singleton, oQ_data]; rfl
      · simp only [flatT, bF, flatTf, flatTs, noL, noLs_vats, noLs_rats, flat_oQ, dW, Bool.true_and]
        rfl

theorem g_Bench_call (F : FunD K "__call__" "Bench.__call__" (defArgs s_Bench_call) (defBody s_Bench_call) (defScope s_Bench_call) [] [] f fd)  (h_check_step : Hs P w K mg base "check_step" ["step", "many"] 3 cChkS) (h_ends_at : Hs P w K mg base "ends_at" ["widths", "waters", "step"] 4 cEnds) (h_step_at : Hs P w K mg base "step_at" ["widths", "waters", "step"] 5 cStep) (h_copied : Hs P w K mg base "copied" ["thing"] 8 (cCopy 8)) (m_len : mg "len" = none) (cl_Bench : Cls K C_Bench) (na_first_tanks : NoAttr K C_Bench "first_tanks") (na_over_at : NoAttr K C_Bench "over_at") (na_waters : NoAttr K C_Bench "waters") (na_all_widths : NoAttr K C_Bench "all_widths") (na_done : NoAttr K C_Bench "done") :
    FnG P w K mg base CX0 (9) f fd (["self", "step"] : List Str) (spD K (cBCall C_Bench)) := by
  have S : FnScope (["self", "step", "ahead", "over"] : List Str) (["self", "step"] : List Str) (defScope s_Bench_call) := ⟨rfl, rfl, rfl, by decide +kernel, rfl, by decide +kernel, by decide +kernel⟩
  have nd : (["self", "step", "ahead", "over"] : List Str).Nodup := by decide +kernel
  refine okF (k := 8) [0, 1] F S (fun cdv A outer s H E hr => (ss_cons (s_expr (e_frz (e_call h_check_step (hr.mono (by omega)) (a_val (ve (n_v 1 (pv 1) rfl)) (a_val (ve (p_len m_len (os_cons (vo (v_fld cl_Bench na_first_tanks (n_o 0 (pv 0) rfl))) os_nil))) a_nil)))))
    (ss_cons (s_if (q_notN (vo (v_pd (q_f cl_Bench na_over_at (q_n 0 (pv 0) rfl)))) (vo c_non)) (ss_one s_never) ss_nil)
    (ss_cons (s_set (i := 2) nd (ve (v_ps (q_i (q_f cl_Bench na_waters (q_n 0 (pv 0) rfl)) k_neg))))
    (ss_cons (s_set (i := 3) nd (ve (ev (e_frz (e_call h_ends_at (hr.mono (by omega)) (a_val (ve (v_fld cl_Bench na_all_widths (n_o 0 (pv 0) rfl))) (a_val (ve (n_v 2 (pv 2) rfl)) (a_val (ve (n_v 1 (pv 1) rfl)) a_nil))))))))
    (ss_cons (s_if (q_eqS (vo (v_pd (q_i (q_n 1 (pv 1) rfl) k_int))) (vo c_str)) (ss_one (s_expr (e_papp (q_f cl_Bench na_waters (q_n 0 (pv 0) rfl)) (c_pd (q_n 2 (pv 2) rfl))))) (ss_one (s_expr (e_papp (q_f cl_Bench na_waters (q_n 0 (pv 0) rfl)) (c_frz (e_call h_step_at (hr.mono (by omega)) (a_val (ve (v_fld cl_Bench na_all_widths (n_o 0 (pv 0) rfl))) (a_val (ve (n_v 2 (pv 2) rfl)) (a_val (ve (n_v 1 (pv 1) rfl)) a_nil)))))))))
    (ss_cons (s_if (t_val (n_v 3 (pv 3) rfl)) (ss_one (s_pfld cl_Bench na_over_at (q_n 0 (pv 0) rfl) (e_frz (ve (p_len m_len (os_cons (vo (v_fld cl_Bench na_done (n_o 0 (pv 0) rfl))) os_nil)))))) ss_nil)
    (ss_cons (s_expr (e_papp (q_f cl_Bench na_done (q_n 0 (pv 0) rfl)) (c_frz (e_call h_copied (hr.mono (by omega)) (a_val (ve (n_v 1 (pv 1) rfl)) a_nil)))))
    (ss_one (s_ret (ve (n_v 3 (pv 3) rfl)))))))))))) ?_ rfl ?_
  · rintro as Q ⟨b, e, t, s, rfl, _⟩; rfl
  · rintro as Q ⟨b, e, t, s, rfl, ht, ok, ho, hs, he, hn, q⟩
    obtain ⟨W, T, rfl, h1, h2⟩ := ht.ex
    obtain ⟨W0, w, rfl, hw⟩ := U_snoc h1
    have od : b.od = .non := by simp [Bn.od, ho]
    obtain ⟨wd, wl, ul, un, D, d0, sD, wz⟩ := Bn.sz ok
    have he' : e.ok b.u.length := by rw [ul]; exact he
    rw [od]
    refine cut (fun ρ => ρ = [some (.ob C_Bench (bF b .non (W0 ++ [w]) T)), some s, none, none]) ?_ fun g hg => ?_
    rotate_left
    · simp [hs, cChkS]
      exact ⟨e, rfl, b.vs.length, rfl, he, by omega, hg _ rfl⟩
    rintro ρ rfl
    refine cut (fun ρ => ρ = [some (.ob C_Bench (bF b .non (W0 ++ [w]) T)), some s, none, none]) ?_ fun g hg => ?_
    rotate_left
    · simp [tld, isN]
      exact hg _ rfl
    rintro ρ rfl
    refine cut (fun ρ => ρ = [some (.ob C_Bench (bF b .non (W0 ++ [.dat (dQ b.u)]) T)), some s, some (.dat (dQ b.u)), none]) ?_ fun g hg => ?_
    rotate_left
    · simp [ixN_end]
      rw [hw]
      exact hg _ rfl
    rintro ρ rfl
    refine cut (fun ρ => ρ = [some (.ob C_Bench (bF b .non (W0 ++ [.dat (dQ b.u)]) T)), some s, some (.dat (dQ b.u)), some (.dat (.bl (endW b.ws b.u e)))]) ?_ fun g hg => ?_
    rotate_left
    · simp [hs, cEnds]
      exact ⟨.t, b.x, D, b.ws, rfl, b.u, rfl, e, rfl, wl, un, d0, sD, wz, wd, ok.q, he', hg _ rfl⟩
    rintro ρ rfl
    refine cut (fun ρ => ∃ v, v.data = dQ (stepW b.ws b.u e) ∧ ρ = [some (.ob C_Bench (bF b .non (W0 ++ [.dat (dQ b.u)] ++ [v]) T)), some s, some (.dat (dQ b.u)), some (.dat (.bl (endW b.ws b.u e)))]) ?_ fun g hg => ?_
    rotate_left
    · have lW : W0.length + 1 < 2 ^ 24 := by
        have := congrArg List.length h1
        rw [Bn.U, List.length_map, List.length_map, scanW_len, List.length_append, List.length_singleton] at this
        omega
      refine if_go (isU e) (fun Q q => un_test hs Q q) ?_
      cases u : isU e with
      | true =>
        obtain ⟨i, k, rfl⟩ : ∃ i k, e = .un i k := by cases e <;> first | exact ⟨_, _, rfl⟩ | cases u
        rw [if_pos rfl]
        simp
        exact ⟨by omega, hg _ ⟨.dat (dQ b.u), rfl, by simp⟩⟩
      | false =>
        rw [if_neg (by simp)]
        simp [hs, cStep]
        refine ⟨by omega, .t, b.x, D, b.ws, rfl, b.u, rfl, e, rfl, wl, un, d0, sD, wz, wd, ok.q, he', isU_no u, flat_oQ _, ?_⟩
        exact hg _ ⟨oQ (stepW b.ws b.u e), oQ_data _, by simp⟩
    rintro ρ ⟨v, hv, rfl⟩
    refine cut (fun ρ => ρ = [some (.ob C_Bench (bF b (if endW b.ws b.u e = true then .int b.E.length else .non) (W0 ++ [.dat (dQ b.u)] ++ [v]) T)), some s, some (.dat (dQ b.u)), some (.dat (.bl (endW b.ws b.u e)))]) ?_ fun g hg => ?_
    rotate_left
    · have lT := congrArg List.length h2
      rw [List.length_map, List.length_map] at lT
      cases z : endW b.ws b.u e with
      | true =>
        simp
        rw [lT]
        exact hg _ (by simp [z])
      | false =>
        simp
        exact hg _ (by simp [z])
    rintro ρ rfl
    simp [hs]
    have lT := congrArg List.length h2
    rw [List.length_map, List.length_map] at lT
    refine ⟨by omega, e.d, rfl, okC_deed (n := 4) he (by omega), rfl, by rw [cp_deed]; exact flat_deed e, q _ (BT.mk' ?_ ?_ ?_)⟩
    · unfold Bn.od
      dsimp only
      by_cases z : endW b.ws b.u e = true
      · rw [if_pos z, if_pos z]
        simp
      · rw [if_neg z, if_neg z]
    · have h3 : (W0 ++ [SV.dat (dQ b.u)]).map SV.data = b.U := by
        rw [← h1, List.map_append, List.map_append, List.map_singleton, List.map_singleton, hw]
        rfl
      have := U_next (o := endW b.ws b.u e) h3 v hv
      simpa using this
    · rw [List.map_append, List.map_singleton, cp_data, h2]
      simp

theorem g_Bench_levels (F : FunD K "levels" "Bench.levels" (defArgs s_Bench_levels) (defBody s_Bench_levels) (defScope s_Bench_levels) [] [] f fd)  (h_levels_at : Hs P w K mg base "levels_at" ["widths", "waters"] 3 cLevels) (cl_Bench : Cls K C_Bench) (na_waters : NoAttr K C_Bench "waters") (na_all_widths : NoAttr K C_Bench "all_widths") :
    FnG P w K mg base CX0 (4) f fd (["self"] : List Str) (spD K (cBLevels C_Bench)) := by
  have S : FnScope (["self"] : List Str) (["self"] : List Str) (defScope s_Bench_levels) := ⟨rfl, rfl, rfl, by decide +kernel, rfl, by decide +kernel, by decide +kernel⟩
  have nd : (["self"] : List Str).Nodup := by decide +kernel
  refine okF (k := 3) [] F S (fun cdv A outer s H E hr => (ss_one (s_ret (e_call h_levels_at (hr.mono (by omega)) (a_val (ve (v_fld cl_Bench na_all_widths (n_o 0 (pv 0) rfl))) (a_val (ve (v_ix (vo (v_fld cl_Bench na_waters (n_o 0 (pv 0) rfl))) (vo (p_neg (vo c_int))))) a_nil)))))) ?_ rfl ?_
  · rintro as Q ⟨b, rfl, _⟩; rfl
  · rintro as Q ⟨b, rfl, ok, q⟩
    obtain ⟨wd, wl, ul, un, D, d0, sD, wz⟩ := Bn.sz ok
    simp [bD, cLevels]
    exact ⟨_, U_end b, .t, b.x, D, b.ws, rfl, b.u, rfl, wl, by omega, d0, sD, wz, wd, ok.q, q⟩

theorem g_Bench_water (F : FunD K "water" "Bench.water" (defArgs s_Bench_water) (defBody s_Bench_water) (defScope s_Bench_water) [] [] f fd)  (h_added : Hs P w K mg base "added" ["one", "other"] 3 cAddR) (cl_Bench : Cls K C_Bench) (na_waters : NoAttr K C_Bench "waters") :
    FnG P w K mg base CX0 (4) f fd (["self"] : List Str) (spD K (cBWater C_Bench)) := by
  have S : FnScope (["self", "whole", "amount"] : List Str) (["self"] : List Str) (defScope s_Bench_water) := ⟨rfl, rfl, rfl, by decide +kernel, rfl, by decide +kernel, by decide +kernel⟩
  have nd : (["self", "whole", "amount"] : List Str).Nodup := by decide +kernel
  refine okF (k := 3) [] F S (fun cdv A outer s H E hr => (ss_cons (s_set (i := 1) nd (ve (v_tup (g_cons (ve c_int) (g_cons (ve c_int) g_nil)))))
    (ss_cons (s_for PassesOwn.never rfl (i_lt (v_ix (vo (v_fld cl_Bench na_waters (n_o 0 (pv 0) rfl))) (vo (p_neg (vo c_int))))) (t_name (i := 2) nd) (ss_one (s_set (i := 1) nd (ve (ev (e_call h_added (hr.mono (by omega)) (a_val (ve (n_v 1 (pv 1) rfl)) (a_val (ve (n_v 2 (pv 2) rfl)) a_nil))))))))
    (ss_one (s_ret (ve (n_v 1 (pv 1) rfl))))))) ?_ rfl ?_
  · rintro as Q ⟨b, rfl, _⟩; rfl
  · rintro as Q ⟨b, rfl, ok, q⟩
    obtain ⟨wd, wl, ul, un, D, d0, sD, wz⟩ := Bn.sz ok
    simp [bD]
    refine ⟨_, U_end b, b.u.map rT, rfl, ?_⟩
    refine for_inv (fun i ρ => ∃ x2 : Option SV, ρ = [some (.dat (bD C_Bench b)), some (.dat (rT (tot (b.u.take i)))), x2]) ⟨none, by simp [tot, bD, rT]⟩ ?_ ?_
    · rintro i d ρ hd ⟨x2, rfl⟩
      obtain ⟨v, hv, rfl⟩ : ∃ v, b.u[i]? = some v ∧ d = rT v := by
        rw [List.getElem?_map] at hd
        cases h : b.u[i]? with
        | none => rw [h] at hd; cases hd
        | some v => rw [h] at hd; exact ⟨v, rfl, by simpa using hd.symm⟩
      obtain ⟨a1, a2⟩ := take_sz wz d0 sD un i
      obtain ⟨c1, c2⟩ := wz.sz d0 sD (List.mem_of_getElem? hv)
      have lt := (List.getElem?_eq_some_iff.mp hv).1
      have ts := tot_take lt
      rw [List.getD_eq_getElem?_getD, hv] at ts
      refine ⟨by simp, halt fun g2 hg2 => ?_⟩
      simp [cAddR]
      refine ⟨a1.mono (by decide), c1.mono (by decide), (a2.mul c2).mono (by decide), ?_⟩
      exact hg2 _ ⟨_, by rw [ts]; rfl⟩
    · rintro ρ ⟨x2, rfl⟩
      rw [List.length_map, List.take_length]
      simpa [bD] using q

theorem g_Bench_ended (F : FunD K "ended" "Bench.ended" (defArgs s_Bench_ended) (defBody s_Bench_ended) (defScope s_Bench_ended) [] [] f fd)  (cl_Bench : Cls K C_Bench) (na_over_at : NoAttr K C_Bench "over_at") :
    FnG P w K mg base CX0 (1) f fd (["self"] : List Str) (spD K (cBEnded C_Bench)) := by
  have S : FnScope (["self"] : List Str) (["self"] : List Str) (defScope s_Bench_ended) := ⟨rfl, rfl, rfl, by decide +kernel, rfl, by decide +kernel, by decide +kernel⟩
  have nd : (["self"] : List Str).Nodup := by decide +kernel
  refine okF (k := 0) [] F S (fun cdv A outer s H E hr => (ss_one (s_ret (ve (v_fld cl_Bench na_over_at (n_o 0 (pv 0) rfl)))))) ?_ rfl ?_
  · rintro as Q ⟨b, rfl, _⟩; rfl
  · rintro as Q ⟨b, rfl, q⟩
    simp [bD]
    exact q

theorem g__law_pv_sack (F : FunD K "_law_pv_sack" "_law_pv_sack" (defArgs s__law_pv_sack) (defBody s__law_pv_sack) (defScope s__law_pv_sack) [] [] f fd)  (m_len : mg "len" = none) (m_int : mg "int" = none) (m_max : mg "max" = none) (m_abs : mg "abs" = none) :
    FnG P w K mg base CX0 (1) f fd (["script", "rank"] : List Str) (spD K cSack) := by
  have S : FnScope (["script", "rank", "cell"] : List Str) (["script", "rank"] : List Str) (defScope s__law_pv_sack) := ⟨rfl, rfl, rfl, by decide +kernel, rfl, by decide +kernel, by decide +kernel⟩
  have nd : (["script", "rank", "cell"] : List Str).Nodup := by decide +kernel
  refine okF (k := 0) [] F S (fun cdv A outer s H E hr => (ss_cons (s_set (i := 2) nd (ve (ev (e_if (q_lt (n_o 1 (pv 1) rfl) (vo (p_len m_len (os_cons (n_o 0 (pv 0) rfl) os_nil)))) (ve (v_ix (n_o 0 (pv 0) rfl) (n_o 1 (pv 1) rfl))) (ve c_int)))))
    (ss_one (s_ret (e_lst (g_cons (ve (p_max rfl m_max (os_cons (vo c_int) (os_cons (vo (p_sub (vo (p_abs m_abs (os_cons (n_o 2 (pv 2) rfl) os_nil))) (vo (p_pow (vo c_int) (vo c_int))))) os_nil)))) (g_cons (ve (p_mod (vo (p_int m_int (os_cons (vo (p_add (vo (p_add (vo (p_mul (n_o 2 (pv 2) rfl) (vo c_int))) (vo (p_mul (n_o 1 (pv 1) rfl) (vo c_int))))) (vo c_int))) os_nil))) (vo (p_add (vo (p_pow (vo c_int) (vo c_int))) (vo c_int))))) (g_cons (ve c_int) g_nil)))))))) ?_ rfl ?_
  · rintro as Q ⟨ns, r, b, rfl, _⟩; rfl
  · rintro as Q ⟨ns, r, b, rfl, hs, hr, q⟩
    have hr' : Sm 40 (r : Int) := by unfold Sm; simpa using hr
    have key : ∀ a : Int, Sm 1048576 a → IntMulOk a 69857 ∧ IntMulOk (r : Int) 9176291 ∧ Q (.own [.dat (.int (if 1000000000000000000 < if a < 0 then -a else a then (if a < 0 then -a else a) - 1000000000000000000 else 0)), .dat (.int ((a * 69857 + r * 9176291 + 60013).fmod 1000000000000000000000007)), .dat (.int 0)]) [.dat (scr b ns), .dat (.int r)] := fun a ha => by
      refine ⟨ha.ok (smc (k := 20)), hr'.ok (smc (k := 30)), q _ ⟨_, _, rfl, ?_, fmod_sm _ (by decide) smc⟩⟩
      refine (ha.le (n := if 1000000000000000000 < if a < 0 then -a else a then (if a < 0 then -a else a) - 1000000000000000000 else 0) ?_).mono (by decide)
      split <;> split <;> omega
    cases b <;> simp [atI_mapI] <;> rcases Nat.lt_or_ge r ns.length with l | l
    case false.inl | true.inl =>
      obtain ⟨k1, k2, k3⟩ := key ns[r] (hs _ (List.getElem_mem l))
      exact .inr ⟨l, _, ⟨_, atI_nat l, rfl⟩, _, rfl, _, rfl, k1, k2, by simpa using k3⟩
    case false.inr | true.inr =>
      obtain ⟨k1, k2, k3⟩ := key 0 smc
      exact .inl ⟨l, k1, k2, by simpa using k3⟩
theorem b__law_pv_sack {k : Nat} {C : Ctr} (G : FnG P w K mg base CX0 k f fd (["script", "rank"] : List Str) (spD K C)) (F : FunD K "_law_pv_sack" "_law_pv_sack" (defArgs s__law_pv_sack) (defBody s__law_pv_sack) (defScope s__law_pv_sack) [] [] f fd) (hm : mg "_law_pv_sack" = some (.ref f)) : Hs P w K mg base "_law_pv_sack" (["script", "rank"] : List Str) k C := by
  refine hsF G hm F ?_
  intro kV doc pm an cdv ct us hl
  match us, hl with
  | [u0, u1], _ => rfl

theorem g__law_pv_coin (F : FunD K "_law_pv_coin" "_law_pv_coin" (defArgs s__law_pv_coin) (defBody s__law_pv_coin) (defScope s__law_pv_coin) [] [] f fd)  (m_int : mg "int" = none) :
    FnG P w K mg base CX0 (1) f fd (["sack", "many"] : List Str) (spD K cCoin) := by
  have S : FnScope (["sack", "many", "drawn", "stirred"] : List Str) (["sack", "many"] : List Str) (defScope s__law_pv_coin) := ⟨rfl, rfl, rfl, by decide +kernel, rfl, by decide +kernel, by decide +kernel⟩
  have nd : (["sack", "many", "drawn", "stirred"] : List Str).Nodup := by decide +kernel
  refine okF (k := 0) [0] F S (fun cdv A outer s H E hr => (ss_cons (s_if (q_gt (vo (v_ix (n_o 0 (pv 0) rfl) (vo c_int))) (vo c_int)) (ss_cons (s_set (i := 2) nd (ve (p_mod (vo (p_int m_int (os_cons (vo (v_ix (n_o 0 (pv 0) rfl) (vo c_int))) os_nil))) (n_o 1 (pv 1) rfl))))
    (ss_cons (s_setit 0 (pv 0) rfl (p_div (vo (v_ix (n_o 0 (pv 0) rfl) (vo c_int))) (n_o 1 (pv 1) rfl)) (vo c_int))
    (ss_one (s_ret (ve (n_v 2 (pv 2) rfl)))))) ss_nil)
    (ss_cons (s_setit 0 (pv 0) rfl (p_add (vo (v_ix (n_o 0 (pv 0) rfl) (vo c_int))) (vo c_int)) (vo c_int))
    (ss_cons (s_set (i := 3) nd (ve (p_mod (vo (p_pow (vo (p_int m_int (os_cons (vo (p_add (vo (v_ix (n_o 0 (pv 0) rfl) (vo c_int))) (vo (p_mul (vo c_int) (vo (v_ix (n_o 0 (pv 0) rfl) (vo c_int))))))) os_nil))) (vo c_int))) (vo (p_add (vo (p_pow (vo c_int) (vo c_int))) (vo c_int))))))
    (ss_cons (s_set (i := 3) nd (ve (p_mod (vo (p_pow (vo (p_int m_int (os_cons (vo (p_add (n_o 3 (pv 3) rfl) (vo (p_mul (vo c_int) (vo (v_ix (n_o 0 (pv 0) rfl) (vo c_int))))))) os_nil))) (vo c_int))) (vo (p_add (vo (p_pow (vo c_int) (vo c_int))) (vo c_int))))))
    (ss_one (s_ret (ve (p_mod (vo (p_int m_int (os_cons (vo (p_div (n_o 3 (pv 3) rfl) (vo c_int))) os_nil))) (n_o 1 (pv 1) rfl)))))))))) ?_ rfl ?_
  · rintro as Q ⟨s, c, m, rfl, _⟩; rfl
  · rintro as Q ⟨s, c, m, rfl, ⟨a, b, rfl, ha, hb⟩, hc, hm, sm, q⟩
    have hc' : Sm 61 ((c : Int) + 1) := by unfold Sm; simp; omega
    simp
    rcases Int.lt_or_le 0 a with z | z
    · have f := fmod_in a hm
      exact .inr ⟨z, by omega, sm.pylong a, q _ _ c f.1 f.2 ⟨_, _, rfl, fdiv_sm ha (by omega), hb⟩ (by omega)⟩
    · have c1 : Sm 95 (b + 1640531527 * ((c : Int) + 1)) := (hb.add ((smc (k := 31)).mul hc')).mono (by decide)
      have c2 : Sm 95 (((b + 1640531527 * ((c : Int) + 1)) ^ 3).fmod 10000000000000000000000013 + 805459861 * ((c : Int) + 1)) := ((fmod_sm (k := 90) _ (by decide) smc).add ((smc (k := 31)).mul hc')).mono (by decide)
      refine .inl ⟨z, (smc (k := 31)).ok hc', c1.pw (n := 3), (smc (k := 31)).ok hc', c2.pw (n := 2), (smc (k := 11)).pylong _, by omega, ?_⟩
      have f := fmod_in ((((((b + 1640531527 * ((c : Int) + 1)) ^ 3).fmod 10000000000000000000000013 + 805459861 * ((c : Int) + 1)) ^ 2).fmod 1000000000000000000000007).fdiv 1024) hm
      exact q _ _ (c + 1) f.1 f.2 ⟨a, b, by simp, ha, hb⟩ (by omega)
theorem b__law_pv_coin {k : Nat} {C : Ctr} (G : FnG P w K mg base CX0 k f fd (["sack", "many"] : List Str) (spD K C)) (F : FunD K "_law_pv_coin" "_law_pv_coin" (defArgs s__law_pv_coin) (defBody s__law_pv_coin) (defScope s__law_pv_coin) [] [] f fd) (hm : mg "_law_pv_coin" = some (.ref f)) : Hs P w K mg base "_law_pv_coin" (["sack", "many"] : List Str) k C := by
  refine hsF G hm F ?_
  intro kV doc pm an cdv ct us hl
  match us, hl with
  | [u0, u1], _ => rfl

theorem g__law_pv_shared (F : FunD K "_law_pv_shared" "_law_pv_shared" (defArgs s__law_pv_shared) (defBody s__law_pv_shared) (defScope s__law_pv_shared) [] [] f fd)  (m_abs : mg "abs" = none) (m_range : mg "range" = none) (m_int : mg "int" = none) :
    FnG P w K mg base CX0 (1) f fd (["left", "right"] : List Str) (spD K cShared) := by
  have S : FnScope (["left", "right", "turn"] : List Str) (["left", "right"] : List Str) (defScope s__law_pv_shared) := ⟨rfl, rfl, rfl, by decide +kernel, rfl, by decide +kernel, by decide +kernel⟩
  have nd : (["left", "right", "turn"] : List Str).Nodup := by decide +kernel
  refine okF (k := 0) [] F S (fun cdv A outer s H E hr => (ss_cons (s_par (i := 0) (j := 1) rfl nd (g_cons (ve (p_abs m_abs (os_cons (n_o 0 (pv 0) rfl) os_nil))) (g_cons (ve (p_abs m_abs (os_cons (n_o 1 (pv 1) rfl) os_nil))) g_nil)))
    (ss_cons (s_for PassesOwn.never rfl (i_rg1 m_range (os_cons (vo c_int) os_nil)) (t_name (i := 2) nd) (ss_cons (s_if (q_eq hr.r (n_o 1 (pv 1) rfl) (vo c_int)) (ss_one (s_ret (ve (n_v 0 (pv 0) rfl)))) ss_nil)
    (ss_one (s_par (i := 0) (j := 1) rfl nd (g_cons (ve (n_v 1 (pv 1) rfl)) (g_cons (ve (p_mod (vo (p_int m_int (os_cons (n_o 0 (pv 0) rfl) os_nil))) (vo (p_int m_int (os_cons (n_o 1 (pv 1) rfl) os_nil))))) g_nil))))))
    (ss_one (s_ret (ve (n_v 0 (pv 0) rfl))))))) ?_ rfl ?_
  · rintro as Q ⟨a, b, rfl, _⟩; rfl
  · rintro as Q ⟨a, b, rfl, hb, q⟩
    simp
    have ea : (if a < 0 then -a else a) = (a.natAbs : Int) := by split <;> omega
    have eb : (if b < 0 then -b else b) = (b.natAbs : Int) := by split <;> omega
    rw [ea, eb]
    refine for_inv (fun i ρ => ∃ (l r : Nat) (x : Option SV), ρ = [some (.dat (.int l)), some (.dat (.int r)), x] ∧ Eu (Int.gcd a b) i l r) ⟨_, _, none, rfl, rfl, fun _ => hb, fun z => by omega⟩ ?_ ?_
    · rintro i d ρ hd ⟨l, r, x, rfl, h⟩
      simp [fmodN]
      by_cases z : r = 0
      · have e := h.g
        rw [z, Nat.gcd_zero_right] at e
        rw [if_pos z, e]; exact q
      · rw [if_neg z]
        exact ⟨z, r, rfl, l % r, (Int.natCast_emod _ _).symm, h.step z⟩
    · rintro ρ ⟨l, r, x, rfl, h⟩
      simp [rgD] at h
      simp [h.last]
      exact q
theorem b__law_pv_shared {k : Nat} {C : Ctr} (G : FnG P w K mg base CX0 k f fd (["left", "right"] : List Str) (spD K C)) (F : FunD K "_law_pv_shared" "_law_pv_shared" (defArgs s__law_pv_shared) (defBody s__law_pv_shared) (defScope s__law_pv_shared) [] [] f fd) (hm : mg "_law_pv_shared" = some (.ref f)) : Hs P w K mg base "_law_pv_shared" (["left", "right"] : List Str) k C := by
  refine hsF G hm F ?_
  intro kV doc pm an cdv ct us hl
  match us, hl with
  | [u0, u1], _ => rfl

theorem g__law_pv_ratio (F : FunD K "_law_pv_ratio" "_law_pv_ratio" (defArgs s__law_pv_ratio) (defBody s__law_pv_ratio) (defScope s__law_pv_ratio) [] [] f fd)  (h__law_pv_shared : Hs P w K mg base "_law_pv_shared" ["left", "right"] 1 cShared) (m_int : mg "int" = none) :
    FnG P w K mg base CX0 (2) f fd (["up", "down"] : List Str) (spD K cRed) := by
  have S : FnScope (["up", "down", "shared"] : List Str) (["up", "down"] : List Str) (defScope s__law_pv_ratio) := ⟨rfl, rfl, rfl, by decide +kernel, rfl, by decide +kernel, by decide +kernel⟩
  have nd : (["up", "down", "shared"] : List Str).Nodup := by decide +kernel
  refine okF (k := 1) [] F S (fun cdv A outer s H E hr => (ss_cons (s_set (i := 2) nd (ve (p_mul (vo (ev (e_call h__law_pv_shared (hr.mono (by omega)) (a_val (ve (n_v 0 (pv 0) rfl)) (a_val (ve (n_v 1 (pv 1) rfl)) a_nil))))) (vo (p_sub (vo c_int) (vo (p_mul (vo c_int) (vo (p_int m_int (os_cons (vo (p_lt (n_o 1 (pv 1) rfl) (vo c_int))) os_nil))))))))))
    (ss_one (s_ret (ve (v_tup (g_cons (ve (p_div (n_o 0 (pv 0) rfl) (n_o 2 (pv 2) rfl))) (g_cons (ve (p_div (n_o 1 (pv 1) rfl) (n_o 2 (pv 2) rfl))) g_nil)))))))) ?_ rfl ?_
  · rintro as Q ⟨a, b, rfl, _⟩; rfl
  · rintro as Q ⟨a, b, rfl, h, hs, q⟩
    have hg := gcd_small (a := a) h hs
    have e1 := rat_num (a := a) h
    have e2 := rat_den (a := a) h
    simp [cShared, h]
    refine ⟨hs.mono (by decide), ?_⟩
    by_cases l : b < 0
    · rw [if_pos l] at e1 e2
      exact .inr ⟨l, (smc (k := 8)).ok (smc (k := 8)), hg.ok (smc (k := 8)), hg.neg.pylong a, hg.neg.pylong b, by rw [e1, e2]; exact q⟩
    · rw [if_neg (by omega)] at e1 e2
      exact .inl ⟨by omega, (smc (k := 8)).ok (smc (k := 8)), hg.ok (smc (k := 8)), hg.pylong a, hg.pylong b, by rw [e1, e2]; exact q⟩
theorem b__law_pv_ratio {k : Nat} {C : Ctr} (G : FnG P w K mg base CX0 k f fd (["up", "down"] : List Str) (spD K C)) (F : FunD K "_law_pv_ratio" "_law_pv_ratio" (defArgs s__law_pv_ratio) (defBody s__law_pv_ratio) (defScope s__law_pv_ratio) [] [] f fd) (hm : mg "_law_pv_ratio" = some (.ref f)) : Hs P w K mg base "_law_pv_ratio" (["up", "down"] : List Str) k C := by
  refine hsF G hm F ?_
  intro kV doc pm an cdv ct us hl
  match us, hl with
  | [u0, u1], _ => rfl

theorem g__law_pv_add (F : FunD K "_law_pv_add" "_law_pv_add" (defArgs s__law_pv_add) (defBody s__law_pv_add) (defScope s__law_pv_add) [] [] f fd)  (h__law_pv_ratio : Hs P w K mg base "_law_pv_ratio" ["up", "down"] 2 cRed) :
    FnG P w K mg base CX0 (3) f fd (["left", "right"] : List Str) (spD K cAddR) := by
  have S : FnScope (["left", "right"] : List Str) (["left", "right"] : List Str) (defScope s__law_pv_add) := ⟨rfl, rfl, rfl, by decide +kernel, rfl, by decide +kernel, by decide +kernel⟩
  have nd : (["left", "right"] : List Str).Nodup := by decide +kernel
  refine okF (k := 2) [] F S (fun cdv A outer s H E hr => (ss_one (s_ret (e_call h__law_pv_ratio (hr.mono (by omega)) (a_val (ve (p_add (vo (p_mul (vo (v_ix (n_o 0 (pv 0) rfl) (vo c_int))) (vo (v_ix (n_o 1 (pv 1) rfl) (vo c_int))))) (vo (p_mul (vo (v_ix (n_o 1 (pv 1) rfl) (vo c_int))) (vo (v_ix (n_o 0 (pv 0) rfl) (vo c_int))))))) (a_val (ve (p_mul (vo (v_ix (n_o 0 (pv 0) rfl) (vo c_int))) (vo (v_ix (n_o 1 (pv 1) rfl) (vo c_int))))) a_nil)))))) ?_ rfl ?_
  · rintro as Q ⟨x, y, rfl, _⟩; rfl
  · rintro as Q ⟨x, y, rfl, hx, hy, hd, q⟩
    simp [rT, cRed]
    refine ⟨hx.n.ok hy.d, hy.n.ok hx.d, hx.d.ok hy.d, x.den_nz, y.den_nz, hd, ?_⟩
    rw [rat_add]; exact q
theorem b__law_pv_add {k : Nat} {C : Ctr} (G : FnG P w K mg base CX0 k f fd (["left", "right"] : List Str) (spD K C)) (F : FunD K "_law_pv_add" "_law_pv_add" (defArgs s__law_pv_add) (defBody s__law_pv_add) (defScope s__law_pv_add) [] [] f fd) (hm : mg "_law_pv_add" = some (.ref f)) : Hs P w K mg base "_law_pv_add" (["left", "right"] : List Str) k C := by
  refine hsF G hm F ?_
  intro kV doc pm an cdv ct us hl
  match us, hl with
  | [u0, u1], _ => rfl

theorem g__law_pv_mul (F : FunD K "_law_pv_mul" "_law_pv_mul" (defArgs s__law_pv_mul) (defBody s__law_pv_mul) (defScope s__law_pv_mul) [] [] f fd)  (h__law_pv_ratio : Hs P w K mg base "_law_pv_ratio" ["up", "down"] 2 cRed) :
    FnG P w K mg base CX0 (3) f fd (["left", "right"] : List Str) (spD K cMulR) := by
  have S : FnScope (["left", "right"] : List Str) (["left", "right"] : List Str) (defScope s__law_pv_mul) := ⟨rfl, rfl, rfl, by decide +kernel, rfl, by decide +kernel, by decide +kernel⟩
  have nd : (["left", "right"] : List Str).Nodup := by decide +kernel
  refine okF (k := 2) [] F S (fun cdv A outer s H E hr => (ss_one (s_ret (e_call h__law_pv_ratio (hr.mono (by omega)) (a_val (ve (p_mul (vo (v_ix (n_o 0 (pv 0) rfl) (vo c_int))) (vo (v_ix (n_o 1 (pv 1) rfl) (vo c_int))))) (a_val (ve (p_mul (vo (v_ix (n_o 0 (pv 0) rfl) (vo c_int))) (vo (v_ix (n_o 1 (pv 1) rfl) (vo c_int))))) a_nil)))))) ?_ rfl ?_
  · rintro as Q ⟨x, y, rfl, _⟩; rfl
  · rintro as Q ⟨x, y, rfl, hx, hy, hd, q⟩
    simp [rT, cRed]
    refine ⟨hx.n.ok hy.n, hx.d.ok hy.d, x.den_nz, y.den_nz, hd, ?_⟩
    rw [rat_mul]; exact q
theorem b__law_pv_mul {k : Nat} {C : Ctr} (G : FnG P w K mg base CX0 k f fd (["left", "right"] : List Str) (spD K C)) (F : FunD K "_law_pv_mul" "_law_pv_mul" (defArgs s__law_pv_mul) (defBody s__law_pv_mul) (defScope s__law_pv_mul) [] [] f fd) (hm : mg "_law_pv_mul" = some (.ref f)) : Hs P w K mg base "_law_pv_mul" (["left", "right"] : List Str) k C := by
  refine hsF G hm F ?_
  intro kV doc pm an cdv ct us hl
  match us, hl with
  | [u0, u1], _ => rfl

theorem g__law_pv_side (F : FunD K "_law_pv_side" "_law_pv_side" (defArgs s__law_pv_side) (defBody s__law_pv_side) (defScope s__law_pv_side) [] [] f fd)  (m_int : mg "int" = none) :
    FnG P w K mg base CX0 (1) f fd (["left", "right"] : List Str) (spD K cCmp) := by
  have S : FnScope (["left", "right", "apart"] : List Str) (["left", "right"] : List Str) (defScope s__law_pv_side) := ⟨rfl, rfl, rfl, by decide +kernel, rfl, by decide +kernel, by decide +kernel⟩
  have nd : (["left", "right", "apart"] : List Str).Nodup := by decide +kernel
  refine okF (k := 0) [] F S (fun cdv A outer s H E hr => (ss_cons (s_set (i := 2) nd (ve (p_sub (vo (p_mul (vo (v_ix (n_o 0 (pv 0) rfl) (vo c_int))) (vo (v_ix (n_o 1 (pv 1) rfl) (vo c_int))))) (vo (p_mul (vo (v_ix (n_o 1 (pv 1) rfl) (vo c_int))) (vo (v_ix (n_o 0 (pv 0) rfl) (vo c_int))))))))
    (ss_one (s_ret (ve (p_sub (vo (p_int m_int (os_cons (vo (p_gt (n_o 2 (pv 2) rfl) (vo c_int))) os_nil))) (vo (p_int m_int (os_cons (vo (p_lt (n_o 2 (pv 2) rfl) (vo c_int))) os_nil))))))))) ?_ rfl ?_
  · rintro as Q ⟨x, y, rfl, _⟩; rfl
  · rintro as Q ⟨x, y, rfl, hx, hy, q⟩
    have h1 := less_iff x y
    have h2 := less_iff y x
    unfold cmpQ at q
    simp [rT]
    refine ⟨hx.n.ok hy.d, hy.n.ok hx.d, ?_⟩
    rcases Int.lt_trichotomy (x.num * (y.den : Int)) (y.num * (x.den : Int)) with h | h | h
    · rw [if_pos (h1.mp h)] at q
      exact .inl ⟨by omega, .inr ⟨by omega, q⟩⟩
    · rw [if_neg (fun z => by have := h1.mpr z; omega), if_neg (fun z => by have := h2.mpr z; omega)] at q
      exact .inl ⟨by omega, .inl ⟨by omega, q⟩⟩
    · rw [if_neg (fun z => by have := h1.mpr z; omega), if_pos (h2.mp h)] at q
      exact .inr ⟨h, .inl ⟨by omega, q⟩⟩
theorem b__law_pv_side {k : Nat} {C : Ctr} (G : FnG P w K mg base CX0 k f fd (["left", "right"] : List Str) (spD K C)) (F : FunD K "_law_pv_side" "_law_pv_side" (defArgs s__law_pv_side) (defBody s__law_pv_side) (defScope s__law_pv_side) [] [] f fd) (hm : mg "_law_pv_side" = some (.ref f)) : Hs P w K mg base "_law_pv_side" (["left", "right"] : List Str) k C := by
  refine hsF G hm F ?_
  intro kV doc pm an cdv ct us hl
  match us, hl with
  | [u0, u1], _ => rfl

theorem g__law_pv_part (F : FunD K "_law_pv_part" "_law_pv_part" (defArgs s__law_pv_part) (defBody s__law_pv_part) (defScope s__law_pv_part) [] [] f fd)  (h__law_pv_coin : Hs P w K mg base "_law_pv_coin" ["sack", "many"] 1 cCoin) (h__law_pv_ratio : Hs P w K mg base "_law_pv_ratio" ["up", "down"] 2 cRed) :
    FnG P w K mg base CX0 (3) f fd (["sack", "most"] : List Str) (spD K cPart) := by
  have S : FnScope (["sack", "most", "down"] : List Str) (["sack", "most"] : List Str) (defScope s__law_pv_part) := ⟨rfl, rfl, rfl, by decide +kernel, rfl, by decide +kernel, by decide +kernel⟩
  have nd : (["sack", "most", "down"] : List Str).Nodup := by decide +kernel
  refine okF (k := 2) [0] F S (fun cdv A outer s H E hr => (ss_cons (s_set (i := 2) nd (ve (p_add (vo c_int) (vo (ev (e_call h__law_pv_coin (hr.mono (by omega)) (a_ref 0 (pv 0) rfl (a_val (ve (n_v 1 (pv 1) rfl)) a_nil))))))))
    (ss_one (s_ret (e_call h__law_pv_ratio (hr.mono (by omega)) (a_val (ve (ev (e_call h__law_pv_coin (hr.mono (by omega)) (a_ref 0 (pv 0) rfl (a_val (ve (p_add (n_o 2 (pv 2) rfl) (vo c_int))) a_nil))))) (a_val (ve (n_v 2 (pv 2) rfl)) a_nil))))))) ?_ rfl ?_
  · rintro as Q ⟨s, c, m, rfl, _⟩; rfl
  · rintro as Q ⟨s, c, m, rfl, hs, hc, h1, h2, q⟩
    simp [cCoin]
    refine ⟨c, hs, by omega, by omega, sm_of (b := 1000) (by omega) (by omega), fun n s1 c1 n0 n1 k1 e1 => ?_⟩
    refine ⟨c1, k1, by omega, by omega, sm_of (b := 1002) (by omega) (by omega), fun n2 s2 c2 m0 m1 k2 e2 => ?_⟩
    refine ⟨n2, 1 + n, rfl, by omega, sm_of (b := 1002) (by omega) (by omega), ?_⟩
    simp
    exact q _ s2 c2 (prt_of m0 (by omega) (by omega) (by omega)) k2 (by omega)
theorem b__law_pv_part {k : Nat} {C : Ctr} (G : FnG P w K mg base CX0 k f fd (["sack", "most"] : List Str) (spD K C)) (F : FunD K "_law_pv_part" "_law_pv_part" (defArgs s__law_pv_part) (defBody s__law_pv_part) (defScope s__law_pv_part) [] [] f fd) (hm : mg "_law_pv_part" = some (.ref f)) : Hs P w K mg base "_law_pv_part" (["sack", "most"] : List Str) k C := by
  refine hsF G hm F ?_
  intro kV doc pm an cdv ct us hl
  match us, hl with
  | [u0, u1], _ => rfl

theorem g__law_pv_two (F : FunD K "_law_pv_two" "_law_pv_two" (defArgs s__law_pv_two) (defBody s__law_pv_two) (defScope s__law_pv_two) [] [] f fd)  (h__law_pv_coin : Hs P w K mg base "_law_pv_coin" ["sack", "many"] 1 cCoin) (m_int : mg "int" = none) :
    FnG P w K mg base CX0 (2) f fd (["sack", "many"] : List Str) (spD K cTwo) := by
  have S : FnScope (["sack", "many", "left"] : List Str) (["sack", "many"] : List Str) (defScope s__law_pv_two) := ⟨rfl, rfl, rfl, by decide +kernel, rfl, by decide +kernel, by decide +kernel⟩
  have nd : (["sack", "many", "left"] : List Str).Nodup := by decide +kernel
  refine okF (k := 1) [0] F S (fun cdv A outer s H E hr => (ss_cons (s_set (i := 2) nd (ve (ev (e_call h__law_pv_coin (hr.mono (by omega)) (a_ref 0 (pv 0) rfl (a_val (ve (n_v 1 (pv 1) rfl)) a_nil))))))
    (ss_one (s_ret (ve (v_tup (g_cons (ve (n_v 2 (pv 2) rfl)) (g_cons (ve (p_mod (vo (p_int m_int (os_cons (vo (p_add (vo (p_add (n_o 2 (pv 2) rfl) (vo c_int))) (vo (ev (e_call h__law_pv_coin (hr.mono (by omega)) (a_ref 0 (pv 0) rfl (a_val (ve (p_sub (n_o 1 (pv 1) rfl) (vo c_int))) a_nil))))))) os_nil))) (n_o 1 (pv 1) rfl))) g_nil)))))))) ?_ rfl ?_
  · rintro as Q ⟨s, c, m, rfl, _⟩; rfl
  · rintro as Q ⟨s, c, m, rfl, hs, hc, h1, h2, q⟩
    simp [cCoin]
    refine ⟨c, hs, by omega, by omega, sm_of (b := 1000) (by omega) (by omega), fun n s1 c1 n0 n1 k1 e1 => ?_⟩
    refine ⟨c1, k1, by omega, by omega, sm_of (b := 1000) (by omega) (by omega), fun n2 s2 c2 m0 m1 k2 e2 => ?_⟩
    refine ⟨by omega, ?_⟩
    obtain ⟨i, rfl⟩ := Int.eq_ofNat_of_zero_le n0
    obtain ⟨t, rfl⟩ := Int.eq_ofNat_of_zero_le m0
    have e : ((i : Int) + 1 + (t : Int)).fmod (m : Int) = (((i + 1 + t) % m : Nat) : Int) := by
      rw [Int.fmod_eq_emod_of_nonneg _ (by omega)]
      simp
    rw [e]
    exact q i ((i + 1 + t) % m) s2 c2 (by omega) (Nat.mod_lt _ (by omega)) (fun z => wrapM (by omega) (by omega) z.symm) k2 (by omega)
theorem b__law_pv_two {k : Nat} {C : Ctr} (G : FnG P w K mg base CX0 k f fd (["sack", "many"] : List Str) (spD K C)) (F : FunD K "_law_pv_two" "_law_pv_two" (defArgs s__law_pv_two) (defBody s__law_pv_two) (defScope s__law_pv_two) [] [] f fd) (hm : mg "_law_pv_two" = some (.ref f)) : Hs P w K mg base "_law_pv_two" (["sack", "many"] : List Str) k C := by
  refine hsF G hm F ?_
  intro kV doc pm an cdv ct us hl
  match us, hl with
  | [u0, u1], _ => rfl

theorem g__law_pv_vessels (F : FunD K "_law_pv_vessels" "_law_pv_vessels" (defArgs s__law_pv_vessels) (defBody s__law_pv_vessels) (defScope s__law_pv_vessels) [] [] f fd)  (h__law_pv_coin : Hs P w K mg base "_law_pv_coin" ["sack", "many"] 1 cCoin) (m_range : mg "range" = none) (m_min : mg "min" = none) :
    FnG P w K mg base CX0 (2) f fd (["sack", "many", "most"] : List Str) (spD K cVats) := by
  have S : FnScope (["sack", "many", "most", "rank", "found", "k", "filled", "broad"] : List Str) (["sack", "many", "most"] : List Str) (defScope s__law_pv_vessels) := ⟨rfl, rfl, rfl, by decide +kernel, rfl, by decide +kernel, by decide +kernel⟩
  have nd : (["sack", "many", "most", "rank", "found", "k", "filled", "broad"] : List Str).Nodup := by decide +kernel
  refine okF (k := 1) [0] F S (fun cdv A outer s H E hr => (ss_cons (s_par (i := 3) (j := 4) rfl nd (g_cons (ve (ev (e_call h__law_pv_coin (hr.mono (by omega)) (a_ref 0 (pv 0) rfl (a_val (ve (n_v 1 (pv 1) rfl)) a_nil))))) (g_cons (e_lst g_nil) g_nil)))
    (ss_cons (s_for PassesOwn.never rfl (i_rg1 m_range (os_cons (n_o 1 (pv 1) rfl) os_nil)) (t_name (i := 5) nd) (ss_cons (s_set (i := 6) nd (ve (p_mul (vo (ev (e_call h__law_pv_coin (hr.mono (by omega)) (a_ref 0 (pv 0) rfl (a_val (ve (p_add (n_o 2 (pv 2) rfl) (vo c_int))) a_nil))))) (vo (p_min rfl m_min (os_cons (vo c_int) (os_cons (vo (ev (e_call h__law_pv_coin (hr.mono (by omega)) (a_ref 0 (pv 0) rfl (a_val (ve c_int) a_nil))))) os_nil)))))))
    (ss_cons (s_set (i := 7) nd (ve (p_add (vo c_int) (vo (ev (e_call h__law_pv_coin (hr.mono (by omega)) (a_ref 0 (pv 0) rfl (a_val (ve (n_v 2 (pv 2) rfl)) a_nil))))))))
    (ss_one (s_expr (e_app 4 (pv 4) rfl (ve (v_tup (g_cons (e_if (q_eq hr.r (n_o 5 (pv 5) rfl) (n_o 3 (pv 3) rfl)) (ve c_non) (ve (n_v 7 (pv 7) rfl))) (g_cons (ve (n_v 6 (pv 6) rfl)) g_nil)))) rfl (fun t h => pe_bm PySem.F.plainAttrs_list PySem.F.slot_list_append PySem.F.type_list_append mt_append (pv 4) h)))))))
    (ss_one (s_ret (n_mv 4 (pv 4) rfl)))))) ?_ rfl ?_
  · rintro as Q ⟨s, c, m, b, rfl, _⟩; rfl
  · rintro as Q ⟨s, c, m, b, rfl, hs, hc, h1, h2, h3, h4, q⟩
    simp [cCoin]
    refine ⟨c, hs, by omega, by omega, sm_of (b := 1000) (by omega) (by omega), fun n s1 c1 n0 n1 k1 e1 => ⟨by omega, ?_⟩⟩
    obtain ⟨r, rfl⟩ := Int.eq_ofNat_of_zero_le n0
    refine for_inv (fun i ρ => ∃ (s' : SV) (c' : Nat) (vs : List Vat) (x5 x6 x7 : Option SV), Sk c' s' ∧ c' ≤ c + 1 + 3 * i ∧ vs.length = i ∧ (∀ v ∈ vs, v.ok) ∧ (vs.filter fun v => v.w.isNone).length = (if r < i then 1 else 0) ∧
      ρ = [some s', some (.dat (.int m)), some (.dat (.int b)), some (.dat (.int r)), some (.own ((vs.map Vat.d).map .dat)), x5, x6, x7]) ⟨s1, c1, [], none, none, none, k1, by omega, rfl, by simp, by simp, rfl⟩ ?_ ?_
    · rintro i d ρ hd ⟨s2, c2, vs, x5, x6, x7, k2, e2, lv, ov, nv, rfl⟩
      obtain ⟨rfl, hi⟩ := rg_get hd
      refine ⟨by simp, halt fun g2 hg2 => ?_⟩
      have fin : ∀ (v : Vat) (s5 : SV) (c5 : Nat) (x5 x6 x7 : Option SV), v.ok → v.w.isNone = decide (i = r) → Sk c5 s5 → c5 ≤ c + 1 + 3 * (i + 1) →
          g2 [some s5, some (.dat (.int m)), some (.dat (.int b)), some (.dat (.int r)), some (.own (vs.map (SV.dat ∘ Vat.d) ++ [.dat v.d])), x5, x6, x7] := fun v s5 c5 x5 x6 x7 ok e k5 l5 => by
        refine hg2 _ ⟨s5, c5, vs ++ [v], x5, x6, x7, k5, l5, by simp [lv], ?_, ?_, by simp [Function.comp_def]⟩
        · intro a m
          rcases List.mem_append.mp m with m | m
          · exact ov a m
          · rw [List.mem_singleton.mp m]; exact ok
        · rw [List.filter_append, List.length_append, nv, List.filter_cons, e]
          by_cases z : i = r
          · subst z; simp
          · simp [z]
            by_cases y : r < i
            · rw [if_pos y, if_pos (by omega)]
            · rw [if_neg y, if_neg (by omega)]
      simp [cCoin]
      refine ⟨c2, k2, by omega, by omega, sm_of (b := 1001) (by omega) (by omega), fun n3 s3 c3 p0 p1 k3 e3 => ⟨c3, k3, by omega, smc, fun n4 s4 c4 q0 q1 k4 e4 => ?_⟩⟩
      obtain ⟨A, hA, A0, A1⟩ : ∃ A, n3 * (if n4 < 1 then n4 else 1) = A ∧ 0 ≤ A ∧ A ≤ 1000 := by
        by_cases z : n4 < 1
        · have : n4 = 0 := by omega
          exact ⟨0, by simp [this], by omega, by omega⟩
        · exact ⟨n3, by rw [if_neg z]; omega, p0, by omega⟩
      refine ⟨(sm_of (k := 11) (b := 1001) (by omega) (by omega)).ok (sm_of (k := 1) (b := 1) (by split <;> omega) (by split <;> omega)), ?_⟩
      rw [hA]
      refine ⟨c4, k4, by omega, by omega, sm_of (b := 1001) (by omega) (by omega), fun n5 s5 c5 r0 r1 k5 e5 => ?_⟩
      split
      · next z => exact ⟨by omega, fin ⟨none, A⟩ s5 c5 _ _ _ ⟨A0, A1, fun _ h => by cases h⟩ (by simp; omega) k5 (by omega)⟩
      · next z => exact ⟨by omega, fin ⟨some (1 + n5), A⟩ s5 c5 _ _ _ ⟨A0, A1, fun _ h => by cases h; omega⟩ (by simp; omega) k5 (by omega)⟩
    · rintro ρ ⟨s2, c2, vs, x5, x6, x7, k2, e2, lv, ov, nv, rfl⟩
      have lr : (rgD 0 1 m).length = m := by simp [rgD]
      simp only [Int.toNat_natCast, lr] at lv e2 nv
      simp
      have := q vs s2 c2 ⟨by omega, ov, by rw [nv, if_pos (by omega)]⟩ lv k2 (by omega)
      simpa [Function.comp_def] using this
theorem b__law_pv_vessels {k : Nat} {C : Ctr} (G : FnG P w K mg base CX0 k f fd (["sack", "many", "most"] : List Str) (spD K C)) (F : FunD K "_law_pv_vessels" "_law_pv_vessels" (defArgs s__law_pv_vessels) (defBody s__law_pv_vessels) (defScope s__law_pv_vessels) [] [] f fd) (hm : mg "_law_pv_vessels" = some (.ref f)) : Hs P w K mg base "_law_pv_vessels" (["sack", "many", "most"] : List Str) k C := by
  refine hsF G hm F ?_
  intro kV doc pm an cdv ct us hl
  match us, hl with
  | [u0, u1, u2], _ => rfl

theorem g__law_pv_deed (F : FunD K "_law_pv_deed" "_law_pv_deed" (defArgs s__law_pv_deed) (defBody s__law_pv_deed) (defScope s__law_pv_deed) [] [] f fd)  (h__law_pv_coin : Hs P w K mg base "_law_pv_coin" ["sack", "many"] 1 cCoin) (h__law_pv_part : Hs P w K mg base "_law_pv_part" ["sack", "most"] 3 cPart) (h__law_pv_two : Hs P w K mg base "_law_pv_two" ["sack", "many"] 2 cTwo) (m_len : mg "len" = none) (m_range : mg "range" = none) :
    FnG P w K mg base CX0 (4) f fd (["sack", "many", "most", "kinds"] : List Str) (spD K cDeed) := by
  have S : FnScope (["sack", "many", "most", "kinds", "kind", "left", "right", "k"] : List Str) (["sack", "many", "most", "kinds"] : List Str) (defScope s__law_pv_deed) := ⟨rfl, rfl, rfl, by decide +kernel, rfl, by decide +kernel, by decide +kernel⟩
  have nd : (["sack", "many", "most", "kinds", "kind", "left", "right", "k"] : List Str).Nodup := by decide +kernel
  refine okF (k := 3) [0] F S (fun cdv A outer s H E hr => (ss_cons (s_set (i := 4) nd (ve (v_ix (n_o 3 (pv 3) rfl) (vo (ev (e_call h__law_pv_coin (hr.mono (by omega)) (a_ref 0 (pv 0) rfl (a_val (ve (p_len m_len (os_cons (n_o 3 (pv 3) rfl) os_nil))) a_nil))))))))
    (ss_cons (s_if (t_w (w_and (q_lt (n_o 1 (pv 1) rfl) (vo c_int)) (w_and1 (q_nin (n_o 4 (pv 4) rfl) (vo (v_tup (g_cons (ve c_str) (g_cons (ve c_str) g_nil)))))))) (ss_one (s_set (i := 4) nd (ve c_str))) ss_nil)
    (ss_cons (s_if (q_eqS (n_o 4 (pv 4) rfl) (vo c_str)) (ss_one (s_ret (ve (v_tup (g_cons (ve c_str) (g_cons (e_call h__law_pv_coin (hr.mono (by omega)) (a_ref 0 (pv 0) rfl (a_val (ve (n_v 1 (pv 1) rfl)) a_nil))) (g_cons (e_call h__law_pv_coin (hr.mono (by omega)) (a_ref 0 (pv 0) rfl (a_val (ve (p_add (n_o 2 (pv 2) rfl) (vo c_int))) a_nil))) g_nil))))))) ss_nil)
    (ss_cons (s_if (q_eqS (n_o 4 (pv 4) rfl) (vo c_str)) (ss_one (s_ret (ve (v_tup (g_cons (ve c_str) (g_cons (e_call h__law_pv_coin (hr.mono (by omega)) (a_ref 0 (pv 0) rfl (a_val (ve (n_v 1 (pv 1) rfl)) a_nil))) (g_cons (e_call h__law_pv_part (hr.mono (by omega)) (a_ref 0 (pv 0) rfl (a_val (ve (ev (e_if (q_gt (n_o 2 (pv 2) rfl) (vo c_int)) (ve c_int) (ve c_int)))) a_nil))) g_nil))))))) ss_nil)
    (ss_cons (s_asg (ev (e_call h__law_pv_two (hr.mono (by omega)) (a_ref 0 (pv 0) rfl (a_val (ve (n_v 1 (pv 1) rfl)) a_nil)))) (t_tup (n := 2) rfl (ts_cons (t_name (i := 5) nd) (ts_cons (t_name (i := 6) nd) ts_nil))))
    (ss_cons (s_if (q_eqS (n_o 4 (pv 4) rfl) (vo c_str)) (ss_one (s_ret (ve (v_tup (g_cons (ve c_str) (g_cons (ve (n_v 5 (pv 5) rfl)) (g_cons (ve (n_v 6 (pv 6) rfl)) (g_cons (e_call h__law_pv_part (hr.mono (by omega)) (a_ref 0 (pv 0) rfl (a_val (ve (ev (e_if (q_gt (n_o 2 (pv 2) rfl) (vo c_int)) (ve c_int) (ve c_int)))) a_nil))) g_nil)))))))) ss_nil)
    (ss_cons (s_if (q_eqS (n_o 4 (pv 4) rfl) (vo c_str)) (ss_one (s_ret (ve (v_tup (g_cons (ve c_str) (g_cons (ve (n_v 5 (pv 5) rfl)) (g_cons (ve (n_v 6 (pv 6) rfl)) g_nil))))))) ss_nil)
    (ss_one (s_ret (ve (v_tup (g_cons (ve c_str) (g_cons (e_lc (own := [("k", 7)]) rfl nd (i_rg1 m_range (os_cons (n_o 1 (pv 1) rfl) os_nil)) rfl (fun _ _ _ _ _ => (t_name (i := 7) nd)) (fun _ _ _ _ _ => (ifs_one (t_w (w_or (q_in (n_o 7 (pv 7) rfl) (vo (v_tup (g_cons (ve (n_v 5 (pv 5) rfl)) (g_cons (ve (n_v 6 (pv 6) rfl)) g_nil))))) (w_or1 (q_eq hr.r (vo (ev (e_call h__law_pv_coin (hr.mono (by omega)) (a_ref 0 (pv 0) rfl (a_val (ve c_int) a_nil))))) (vo c_int))))))) (fun _ _ _ _ _ => (ve (n_v 7 (pv 7) rfl)))) g_nil)))))))))))))) ?_ rfl ?_
  · rintro as Q ⟨s, c, m, b, z, rfl, _⟩; rfl
  · rintro as Q ⟨s, c, m, b, zs, rfl, hs, hc, h1, h2, h3, h4, hz, lz, hw, q⟩
    refine cut (fun ρ => ∃ s' c' z, Sk c' s' ∧ c' ≤ c + 1 ∧ z ∈ words ∧ ρ = [some s', some (.dat (.int m)), some (.dat (.int b)), some (.dat (.lst (zs.map .str))), some (.dat (.str z)), none, none, none]) ?_ fun g hg => ?_
    rotate_left
    · have lp : 0 < zs.length := List.length_pos_iff.mpr hz
      simp [cCoin]
      refine ⟨c, hs, by omega, lp, sm_of (b := 20) (by omega) (by omega), fun n s1 c1 n0 n1 k1 e1 => ?_⟩
      obtain ⟨i, rfl⟩ := Int.eq_ofNat_of_zero_le n0
      have hi : i < zs.length := by omega
      refine ⟨.str zs[i], ?_, hg _ ⟨s1, c1, zs[i], k1, e1, hw _ (List.getElem_mem hi), rfl⟩⟩
      rw [atI_nat (by simpa using hi)]
      simp
    rintro ρ ⟨s0, c0, z, k0, e0, mz, rfl⟩
    refine cut (fun ρ => ∃ z, z ∈ words ∧ (m < 2 → z = "pour" ∨ z = "scoop") ∧ ρ = [some s0, some (.dat (.int m)), some (.dat (.int b)), some (.dat (.lst (zs.map .str))), some (.dat (.str z)), none, none, none]) ?_ fun g hg => ?_
    rotate_left
    · simp
      rcases Nat.lt_or_ge m 2 with l | l
      · refine .inr ⟨by omega, ["pour", "scoop"], rfl, ?_⟩
        by_cases y : z ∈ (["pour", "scoop"] : List Str)
        · exact .inl ⟨y, hg _ ⟨z, mz, fun _ => by simpa using y, rfl⟩⟩
        · exact .inr ⟨y, hg _ ⟨"pour", by simp [words], fun _ => .inl rfl, rfl⟩⟩
      · exact .inl ⟨by omega, hg _ ⟨z, mz, fun h => absurd h (by omega), rfl⟩⟩
    rintro ρ ⟨z, mz, lz, rfl⟩
    simp [words] at mz
    rcases mz with rfl | rfl | rfl | rfl | rfl
    · have l : 2 ≤ m := by
        rcases Nat.lt_or_ge m 2 with l | l
        · have := lz l; simp at this
        · exact l
      simp [cCoin, cTwo, cPart]
      refine ⟨c0, m, rfl, k0, by omega, l, h2, fun i j s1 c1 hi hj hij k1 e1 => ⟨by omega, ?_⟩⟩
      refine lc_inv (fun t acc ρ => ∃ (s' : SV) (c' : Nat) (ks : List Nat), Sk c' s' ∧ c' ≤ c1 + t ∧ ks.Pairwise (· < ·) ∧ (∀ k ∈ ks, k < t) ∧ (i < t → i ∈ ks) ∧ (j < t → j ∈ ks) ∧ ks.length ≤ t ∧ acc = (nI ks).map (fun k => SV.dat (.int k)) ∧
        ρ = [some s', some (.dat (.int m)), some (.dat (.int b)), some (.dat (.lst (zs.map .str))), some (.dat (.str "open")), some (.dat (.int i)), some (.dat (.int j)), none]) ⟨s1, c1, [], k1, by omega, List.Pairwise.nil, by simp, by simp, by simp, by simp, rfl, rfl⟩ ?_ ?_
      · rintro t d acc ρ hd ⟨s2, c2, ks, k2, e2, pw, lt, mi, mj, ll, rfl, rfl⟩
        obtain ⟨rfl, ht⟩ := rg_get hd
        refine ⟨by simp [plainB], ?_⟩
        simp [wipeR, unwipe, cCoin]
        have ln : (nI ks).length = ks.length := by simp [nI]
        have yes : ∀ (s' : SV) (c' : Nat), Sk c' s' → c' ≤ c1 + (t + 1) → ∃ s'_1 c', Sk c' s'_1 ∧ c' ≤ c1 + (t + 1) ∧ ∃ x : List Nat, List.Pairwise (fun x1 x2 => x1 < x2) x ∧ (∀ (k : Nat), k ∈ x → k < t + 1) ∧ (i < t + 1 → i ∈ x) ∧ (j < t + 1 → j ∈ x) ∧ x.length ≤ t + 1 ∧
            List.map (fun k => SV.dat (DD.int k)) (nI ks) ++ [SV.dat (DD.int (t : Int))] = List.map (fun k => SV.dat (DD.int k)) (nI x) ∧ s' = s'_1 := fun s' c' k e => by
          refine ⟨s', c', k, e, ks ++ [t], rise_snoc pw lt, ?_, ?_, ?_, by simp; omega, by simp [nI], rfl⟩
          · intro k m
            rcases List.mem_append.mp m with m | m
            · have := lt k m; omega
            · rw [List.mem_singleton.mp m]; omega
          · intro h
            by_cases z : i = t
            · rw [z]; simp
            · exact List.mem_append_left _ (mi (by omega))
          · intro h
            by_cases z : j = t
            · rw [z]; simp
            · exact List.mem_append_left _ (mj (by omega))
        refine ⟨[(i : Int), j], rfl, ?_⟩
        by_cases z : (t : Int) ∈ [(i : Int), (j : Int)]
        · rw [if_pos z]
          exact ⟨by omega, yes s2 c2 k2 (by omega)⟩
        rw [if_neg z]
        have zi : t ≠ i := fun h => z (by rw [h]; simp)
        have zj : t ≠ j := fun h => z (by rw [h]; simp)
        refine ⟨c2, k2, by omega, smc, fun n3 s3 c3 p0 p1 k3 e3 => ?_⟩
        split
        · exact ⟨by omega, yes s3 c3 k3 (by omega)⟩
        · exact ⟨s3, c3, k3, by omega, ks, pw, fun k m => by have := lt k m; omega, fun h => mi (by omega), fun h => mj (by omega), by omega, rfl, rfl⟩
      · rintro acc ρ ⟨s2, c2, ks, k2, e2, pw, lt, mi, mj, ll, rfl, rfl⟩
        have lr : (rgD 0 1 m).length = m := by simp [rgD]
        rw [lr] at e2 lt mi mj ll
        simp
        have := q (.op ks) s2 c2 ⟨two_le (mi hi) (mj hj) hij, by omega, pw, lt⟩ k2 (by omega)
        simpa [Deed.d, dI, Function.comp_def] using this
    · simp [cCoin, cTwo, cPart]
      refine ⟨c0, k0, by omega, by omega, sm_of (b := 1000) (by omega) (by omega), fun n s1 c1 n0 n1 k1 e1 => ⟨c1, k1, by omega, by omega, sm_of (b := 1001) (by omega) (by omega), fun n2 s2 c2 m0 m1 k2 e2 => ?_⟩⟩
      obtain ⟨k, rfl⟩ := Int.eq_ofNat_of_zero_le n0
      exact q (.pr k n2) s2 c2 ⟨by omega, m0, by omega⟩ k2 (by omega)
    · simp [cCoin, cTwo, cPart]
      refine ⟨c0, k0, by omega, by omega, sm_of (b := 1000) (by omega) (by omega), fun n s1 c1 n0 n1 k1 e1 => ?_⟩
      obtain ⟨k, rfl⟩ := Int.eq_ofNat_of_zero_le n0
      exact ⟨by omega, c1, k1, by omega, fun p s2 c2 hp k2 e2 => q (.sc k p) s2 c2 ⟨by omega, hp⟩ k2 (by omega)⟩
    · have l : 2 ≤ m := by
        rcases Nat.lt_or_ge m 2 with l | l
        · have := lz l; simp at this
        · exact l
      simp [cCoin, cTwo, cPart]
      refine ⟨c0, m, rfl, k0, by omega, l, h2, fun i j s1 c1 hi hj hij k1 e1 => ?_⟩
      exact ⟨by omega, c1, k1, by omega, fun p s2 c2 hp k2 e2 => q (.mv i j p) s2 c2 ⟨hi, hj, hij, hp⟩ k2 (by omega)⟩
    · have l : 2 ≤ m := by
        rcases Nat.lt_or_ge m 2 with l | l
        · have := lz l; simp at this
        · exact l
      simp [cCoin, cTwo, cPart]
      exact ⟨c0, m, rfl, k0, by omega, l, h2, fun i j s1 c1 hi hj hij k1 e1 => q (.un i j) s1 c1 ⟨hi, hj, hij⟩ k1 (by omega)⟩
theorem b__law_pv_deed {k : Nat} {C : Ctr} (G : FnG P w K mg base CX0 k f fd (["sack", "many", "most", "kinds"] : List Str) (spD K C)) (F : FunD K "_law_pv_deed" "_law_pv_deed" (defArgs s__law_pv_deed) (defBody s__law_pv_deed) (defScope s__law_pv_deed) [] [] f fd) (hm : mg "_law_pv_deed" = some (.ref f)) : Hs P w K mg base "_law_pv_deed" (["sack", "many", "most", "kinds"] : List Str) k C := by
  refine hsF G hm F ?_
  intro kV doc pm an cdv ct us hl
  match us, hl with
  | [u0, u1, u2, u3], _ => rfl

theorem g__law_pv_shape (F : FunD K "_law_pv_shape" "_law_pv_shape" (defArgs s__law_pv_shape) (defBody s__law_pv_shape) (defScope s__law_pv_shape) [] [] f fd)  (h__law_pv_coin : Hs P w K mg base "_law_pv_coin" ["sack", "many"] 1 cCoin) (h__law_pv_deed : Hs P w K mg base "_law_pv_deed" ["sack", "many", "most", "kinds"] 4 cDeed) (h__law_pv_vessels : Hs P w K mg base "_law_pv_vessels" ["sack", "many", "most"] 2 cVats) (m_range : mg "range" = none) (m_int : mg "int" = none) :
    FnG P w K mg base CX0 (5) f fd (["sack"] : List Str) (spD K cShape) := by
  have S : FnScope (["sack", "most", "many", "deeds", "valves", "halts", "turn", "kinds", "deed"] : List Str) (["sack"] : List Str) (defScope s__law_pv_shape) := ⟨rfl, rfl, rfl, by decide +kernel, rfl, by decide +kernel, by decide +kernel⟩
  have nd : (["sack", "most", "many", "deeds", "valves", "halts", "turn", "kinds", "deed"] : List Str).Nodup := by decide +kernel
  refine okF (k := 4) [0] F S (fun cdv A outer s H E hr => (ss_cons (s_par (i := 1) (j := 2) rfl nd (g_cons (ve (v_ix (vo (ev (e_lst (g_cons (ve c_int) (g_cons (ve c_int) g_nil))))) (vo (ev (e_call h__law_pv_coin (hr.mono (by omega)) (a_ref 0 (pv 0) rfl (a_val (ve c_int) a_nil))))))) (g_cons (ve (p_add (vo c_int) (vo (ev (e_call h__law_pv_coin (hr.mono (by omega)) (a_ref 0 (pv 0) rfl (a_val (ve c_int) a_nil))))))) g_nil)))
    (ss_cons (s_par3 (i := 3) (j := 4) (l := 5) rfl nd (g_cons (e_lst g_nil) (g_cons (ve c_int) (g_cons (ve c_int) g_nil))))
    (ss_cons (s_for PassesOwn.never rfl (i_rg1 m_range (os_cons (vo (ev (e_call h__law_pv_coin (hr.mono (by omega)) (a_ref 0 (pv 0) rfl (a_val (ve c_int) a_nil))))) os_nil)) (t_name (i := 6) nd) (ss_cons (s_set (i := 7) nd (ve (ev (e_lst (g_cons (ve c_str) (g_cons (ve c_str) (g_cons (ve c_str) g_nil)))))))
    (ss_cons (s_if (q_lt (n_o 4 (pv 4) rfl) (vo c_int)) (ss_one (s_set (i := 7) nd (ve (ev (e_add (ve (n_v 7 (pv 7) rfl)) (e_lst (g_cons (ve c_str) (g_cons (ve c_str) g_nil)))))))) ss_nil)
    (ss_cons (s_if (q_lt (n_o 5 (pv 5) rfl) (vo c_int)) (ss_one (s_set (i := 7) nd (ve (ev (e_add (ve (n_v 7 (pv 7) rfl)) (e_lst (g_cons (ve c_str) g_nil))))))) ss_nil)
    (ss_cons (s_set (i := 8) nd (ve (ev (e_call h__law_pv_deed (hr.mono (by omega)) (a_ref 0 (pv 0) rfl (a_val (ve (n_v 2 (pv 2) rfl)) (a_val (ve (n_v 1 (pv 1) rfl)) (a_val (ve (n_v 7 (pv 7) rfl)) a_nil))))))))
    (ss_cons (s_par (i := 4) (j := 5) rfl nd (g_cons (ve (p_add (n_o 4 (pv 4) rfl) (vo (p_int m_int (os_cons (vo (p_eqS (vo (v_ix (n_o 8 (pv 8) rfl) (vo c_int))) (vo c_str))) os_nil))))) (g_cons (ve (p_add (n_o 5 (pv 5) rfl) (vo (p_int m_int (os_cons (vo (p_eqS (vo (v_ix (n_o 8 (pv 8) rfl) (vo c_int))) (vo c_str))) os_nil))))) g_nil)))
    (ss_one (s_expr (e_app 3 (pv 3) rfl (ve (n_v 8 (pv 8) rfl)) rfl (fun t h => pe_bm PySem.F.plainAttrs_list PySem.F.slot_list_append PySem.F.type_list_append mt_append (pv 3) h))))))))))
    (ss_one (s_ret (ve (v_tup (g_cons (e_call h__law_pv_vessels (hr.mono (by omega)) (a_ref 0 (pv 0) rfl (a_val (ve (n_v 2 (pv 2) rfl)) (a_val (ve (n_v 1 (pv 1) rfl)) a_nil)))) (g_cons (ve (n_sl 3 (pv 3) rfl)) g_nil)))))))))) ?_ rfl ?_
  · rintro as Q ⟨s, c, rfl, _⟩; rfl
  · rintro as Q ⟨s, c, rfl, hs, hc, q⟩
    refine cut (fun ρ => ∃ (s' : SV) (c' : Nat) (b : Int) (m : Nat), Sk c' s' ∧ c' ≤ c + 2 ∧ 1 ≤ b ∧ b ≤ 1000 ∧ 1 ≤ m ∧ m ≤ 20 ∧ ρ = [some s', some (.dat (.int b)), some (.dat (.int m)), none, none, none, none, none, none]) ?_ fun g hg => ?_
    rotate_left
    · simp [cCoin]
      refine ⟨c, hs, by omega, smc, fun n s1 c1 n0 n1 k1 e1 => ?_⟩
      obtain ⟨b, ev, hb⟩ : ∃ v, atI [DD.int 3, .int 12] n = some (.int v) ∧ 1 ≤ v ∧ v ≤ 1000 := by
        have : n = 0 ∨ n = 1 := by omega
        rcases this with rfl | rfl
        · exact ⟨3, rfl, by omega, by omega⟩
        · exact ⟨12, rfl, by omega, by omega⟩
      refine ⟨_, ev, c1, k1, by omega, smc, fun n2 s2 c2 m0 m1 k2 e2 => hg _ ⟨s2, c2, b, (1 + n2).toNat, k2, by omega, hb.1, hb.2, by omega, by omega, ?_⟩⟩
      rw [Int.toNat_of_nonneg (by omega)]
    rintro ρ ⟨s2, c2, b, m, k2, e2, b1, b2, m1, m2, rfl⟩
    refine cut (fun ρ => ρ = [some s2, some (.dat (.int b)), some (.dat (.int m)), some (.own []), some (.dat (.int 0)), some (.dat (.int 0)), none, none, none]) ?_ fun g hg => ?_
    rotate_left
    · simp
      exact hg _ rfl
    rintro ρ rfl
    refine cut (fun ρ => ∃ (s' : SV) (c' : Nat) (ds : List Deed) (x3 x4 x5 x6 x7 : Option SV), Sk c' s' ∧ c' ≤ c + 1000 ∧ ds.length ≤ 60 ∧ (∀ e ∈ ds, e.ok m) ∧ ρ = [some s', some (.dat (.int b)), some (.dat (.int m)), some (.own ((ds.map Deed.d).map .dat)), x3, x4, x5, x6, x7]) ?_ fun g hg => ?_
    rotate_left
    · simp [cCoin]
      refine ⟨c2, k2, by omega, smc, fun n3 s3 c3 p0 p1 k3 e3 => ⟨by omega, by omega, ?_⟩⟩
      refine for_inv (fun i ρ => ∃ (s' : SV) (c' : Nat) (ds : List Deed) (v h : Int) (x5 x6 x7 : Option SV), Sk c' s' ∧ c' ≤ c3 + 100 * i ∧ ds.length = i ∧ (∀ e ∈ ds, e.ok m) ∧ ρ = [some s', some (.dat (.int b)), some (.dat (.int m)), some (.own ((ds.map Deed.d).map .dat)), some (.dat (.int v)), some (.dat (.int h)), x5, x6, x7]) ⟨s3, c3, [], 0, 0, none, none, none, k3, by omega, rfl, by simp, rfl⟩ ?_ ?_
      · rintro i d ρ hd ⟨s4, c4, ds, v, h, x5, x6, x7, k4, e4, ld, od, rfl⟩
        obtain ⟨rfl, hi⟩ := rg_get hd
        refine ⟨by simp, ?_⟩
        refine cut (fun ρ => ρ = [some s4, some (.dat (.int b)), some (.dat (.int m)), some (.own ((ds.map Deed.d).map .dat)), some (.dat (.int v)), some (.dat (.int h)), some (.dat (.int i)), some (.dat (.lst ((["pour", "scoop", "move"] : List Str).map .str))), x7]) ?_ fun g2 hg2 => ?_
        rotate_left
        · simp
          exact hg2 _ (by simp)
        rintro ρ rfl
        refine cut (fun ρ => ∃ zs : List Str, zs ≠ [] ∧ zs.length ≤ 5 ∧ (∀ z ∈ zs, z ∈ words) ∧ ρ = [some s4, some (.dat (.int b)), some (.dat (.int m)), some (.own ((ds.map Deed.d).map .dat)), some (.dat (.int v)), some (.dat (.int h)), some (.dat (.int i)), some (.dat (.lst (zs.map .str))), x7]) ?_ fun g2 hg2 => ?_
        rotate_left
        · simp [addT]
          by_cases y : v < 4
          · exact .inr ⟨y, hg2 _ ⟨["pour", "scoop", "move", "open", "open"], by simp, by simp, by simp [words], by simp [Function.comp_def]⟩⟩
          · exact .inl ⟨by omega, hg2 _ ⟨["pour", "scoop", "move"], by simp, by simp, by simp [words], by simp [Function.comp_def]⟩⟩
        rintro ρ ⟨zs, z1, z2, z3, rfl⟩
        refine cut (fun ρ => ∃ zs : List Str, zs ≠ [] ∧ zs.length ≤ 6 ∧ (∀ z ∈ zs, z ∈ words) ∧ ρ = [some s4, some (.dat (.int b)), some (.dat (.int m)), some (.own ((ds.map Deed.d).map .dat)), some (.dat (.int v)), some (.dat (.int h)), some (.dat (.int i)), some (.dat (.lst (zs.map .str))), x7]) ?_ fun g2 hg2 => ?_
        rotate_left
        · simp [addT]
          by_cases y : h < 2
          · refine .inr ⟨y, by omega, hg2 _ ⟨zs ++ [("unless" : Str)], by simp, by simp; omega, ?_, by simp [Function.comp_def]⟩⟩
            intro z hz
            rcases List.mem_append.mp hz with hz | hz
            · exact z3 z hz
            · rw [List.mem_singleton.mp hz]; simp [words]
          · exact .inl ⟨by omega, hg2 _ ⟨zs, z1, by omega, z3, by simp [Function.comp_def]⟩⟩
        rintro ρ ⟨zs, z1, z2, z3, rfl⟩
        refine cut (fun ρ => ∃ (s' : SV) (c' : Nat) (e : Deed), Sk c' s' ∧ c' ≤ c3 + 100 * (i + 1) ∧ e.ok m ∧ ρ = [some s', some (.dat (.int b)), some (.dat (.int m)), some (.own ((ds.map Deed.d).map .dat)), some (.dat (.int v)), some (.dat (.int h)), some (.dat (.int i)), some (.dat (.lst (zs.map .str))), some (.dat e.d)]) ?_ fun g2 hg2 => ?_
        rotate_left
        · simp [cDeed]
          exact ⟨c4, m, rfl, zs, rfl, k4, by omega, by omega, by omega, by omega, by omega, z1, by omega, z3, fun e s' c' oe k' e' => hg2 _ ⟨s', c', e, k', by omega, oe, by simp [Function.comp_def]⟩⟩
        rintro ρ ⟨s5, c5, e, k5, e5, oe, rfl⟩
        obtain ⟨z, ix⟩ := ix_word e
        refine halt fun g2 hg2 => ?_
        simp
        have fin : ∀ v h : Int, g2 [some s5, some (.dat (.int b)), some (.dat (.int m)), some (.own (ds.map (SV.dat ∘ Deed.d) ++ [.dat e.d])), some (.dat (.int v)), some (.dat (.int h)), some (.dat (.int i)), some (.dat (.lst (zs.map .str))), some (.dat e.d)] := fun v h => by
          refine hg2 _ ⟨s5, c5, ds ++ [e], v, h, _, _, _, k5, e5, by simp [ld], ?_, by simp [Function.comp_def]; exact ⟨rfl, rfl, rfl⟩⟩
          intro a ha
          rcases List.mem_append.mp ha with ha | ha
          · exact od a ha
          · rw [List.mem_singleton.mp ha]; exact oe
        refine ix _ ⟨z, rfl, ?_⟩
        by_cases o : z = Str.ofString "open"
        · refine .inr ⟨o, ix _ ⟨z, rfl, ?_⟩⟩
          by_cases u : z = Str.ofString "unless"
          · exact .inr ⟨u, by omega, fin _ _⟩
          · exact .inl ⟨u, by omega, fin _ _⟩
        · refine .inl ⟨o, ix _ ⟨z, rfl, ?_⟩⟩
          by_cases u : z = Str.ofString "unless"
          · exact .inr ⟨u, by omega, fin _ _⟩
          · exact .inl ⟨u, by omega, fin _ _⟩
      · rintro ρ ⟨s4, c4, ds, v, h, x5, x6, x7, k4, e4, ld, od, rfl⟩
        have lr : (rgD 0 1 n3.toNat).length = n3.toNat := by simp [rgD]
        rw [lr] at e4 ld
        exact hg _ ⟨s4, c4, ds, _, _, x5, x6, x7, k4, by omega, by omega, od, rfl⟩
    rintro ρ ⟨s3, c3, ds, x3, x4, x5, x6, x7, k3, e3, ld, od, rfl⟩
    simp [cVats]
    refine ⟨c3, m, rfl, k3, by omega, m1, m2, b1, b2, fun vs s5 c5 hv lv k5 e5 => ?_⟩
    have := q vs ds s5 c5 hv ld (by rw [lv]; exact od) k5 (by omega)
    simpa [Function.comp_def, dShape] using this
theorem b__law_pv_shape {k : Nat} {C : Ctr} (G : FnG P w K mg base CX0 k f fd (["sack"] : List Str) (spD K C)) (F : FunD K "_law_pv_shape" "_law_pv_shape" (defArgs s__law_pv_shape) (defBody s__law_pv_shape) (defScope s__law_pv_shape) [] [] f fd) (hm : mg "_law_pv_shape" = some (.ref f)) : Hs P w K mg base "_law_pv_shape" (["sack"] : List Str) k C := by
  refine hsF G hm F ?_
  intro kV doc pm an cdv ct us hl
  match us, hl with
  | [u0], _ => rfl

theorem g__law_pv_long (F : FunD K "_law_pv_long" "_law_pv_long" (defArgs s__law_pv_long) (defBody s__law_pv_long) (defScope s__law_pv_long) [] [] f fd)  (h__law_pv_coin : Hs P w K mg base "_law_pv_coin" ["sack", "many"] 1 cCoin) (h__law_pv_deed : Hs P w K mg base "_law_pv_deed" ["sack", "many", "most", "kinds"] 4 cDeed) (h__law_pv_vessels : Hs P w K mg base "_law_pv_vessels" ["sack", "many", "most"] 2 cVats) (m_range : mg "range" = none) :
    FnG P w K mg base CX0 (5) f fd (["sack"] : List Str) (spD K cShape) := by
  have S : FnScope (["sack", "many", "kinds", "size", "deeds", "turn"] : List Str) (["sack"] : List Str) (defScope s__law_pv_long) := ⟨rfl, rfl, rfl, by decide +kernel, rfl, by decide +kernel, by decide +kernel⟩
  have nd : (["sack", "many", "kinds", "size", "deeds", "turn"] : List Str).Nodup := by decide +kernel
  refine okF (k := 4) [0] F S (fun cdv A outer s H E hr => (ss_cons (s_asg (v_tup (g_cons (ve (p_add (vo c_int) (vo (ev (e_call h__law_pv_coin (hr.mono (by omega)) (a_ref 0 (pv 0) rfl (a_val (ve c_int) a_nil))))))) (g_cons (e_lst (g_cons (ve c_str) (g_cons (ve c_str) (g_cons (ve c_str) (g_cons (ve c_str) (g_cons (ve c_str) g_nil)))))) g_nil))) (t_tup (n := 2) rfl (ts_cons (t_name (i := 1) nd) (ts_cons (t_name (i := 2) nd) ts_nil))))
    (ss_cons (s_set (i := 3) nd (ve (ev (e_call h__law_pv_coin (hr.mono (by omega)) (a_ref 0 (pv 0) rfl (a_val (ve (v_ix (vo (ev (e_lst (g_cons (ve c_int) (g_cons (ve c_int) g_nil))))) (vo (ev (e_call h__law_pv_coin (hr.mono (by omega)) (a_ref 0 (pv 0) rfl (a_val (ve c_int) a_nil))))))) a_nil))))))
    (ss_cons (s_lcS (i := 4) (own := [("turn", 5)]) rfl nd (i_rg1 m_range (os_cons (n_o 3 (pv 3) rfl) os_nil)) rfl (fun _ _ _ _ _ => (t_name (i := 5) nd)) (fun _ _ _ _ _ => ifs_nil) (fun _ _ _ _ _ => (e_call h__law_pv_deed (hr.mono (by omega)) (a_ref 0 (pv 0) rfl (a_val (ve (n_v 1 (pv 1) rfl)) (a_val (ve c_int) (a_val (ve (n_v 2 (pv 2) rfl)) a_nil)))))))
    (ss_one (s_ret (ve (v_tup (g_cons (e_call h__law_pv_vessels (hr.mono (by omega)) (a_ref 0 (pv 0) rfl (a_val (ve (n_v 1 (pv 1) rfl)) (a_val (ve c_int) a_nil)))) (g_cons (ve (n_v 4 (pv 4) rfl)) g_nil)))))))))) ?_ rfl ?_
  · rintro as Q ⟨s, c, rfl, _⟩; rfl
  · rintro as Q ⟨s, c, rfl, hs, hc, q⟩
    refine cut (fun ρ => ∃ (s' : SV) (c' : Nat) (m : Nat), Sk c' s' ∧ c' ≤ c + 1 ∧ 1 ≤ m ∧ m ≤ 20 ∧ ρ = [some s', some (.dat (.int m)), some (.dat (.lst (words2.map .str))), none, none, none]) ?_ fun g hg => ?_
    rotate_left
    · simp [cCoin]
      exact ⟨c, hs, by omega, smc, fun n s1 c1 n0 n1 k1 e1 => hg _ ⟨s1, c1, (1 + n).toNat, k1, e1, by omega, by omega, by rw [Int.toNat_of_nonneg (by omega)]; rfl⟩⟩
    rintro ρ ⟨s1, c1, m, k1, e1, m1, m2, rfl⟩
    refine cut (fun ρ => ∃ (s' : SV) (c' : Nat) (n : Nat), Sk c' s' ∧ c' ≤ c1 + 2 ∧ n ≤ 60 ∧ ρ = [some s', some (.dat (.int m)), some (.dat (.lst (words2.map .str))), some (.dat (.int n)), none, none]) ?_ fun g hg => ?_
    rotate_left
    · simp [cCoin]
      refine ⟨c1, k1, by omega, smc, fun n2 s2 c2 p0 p1 k2 e2 => ?_⟩
      obtain ⟨v, ev, hv⟩ : ∃ v, atI [DD.int 9, .int 61] n2 = some (.int v) ∧ 1 ≤ v ∧ v ≤ 61 := by
        have : n2 = 0 ∨ n2 = 1 := by omega
        rcases this with rfl | rfl
        · exact ⟨9, rfl, by omega, by omega⟩
        · exact ⟨61, rfl, by omega, by omega⟩
      exact ⟨_, ev, c2, v, rfl, k2, by omega, by omega, sm_of (b := 61) (by omega) (by omega), fun n3 s3 c3 p0 p1 k3 e3 => hg _ ⟨s3, c3, n3.toNat, k3, by omega, by omega, by rw [Int.toNat_of_nonneg p0]⟩⟩
    rintro ρ ⟨s2, c2, n, k2, e2, hn, rfl⟩
    refine cut (fun ρ => ∃ (s' : SV) (c' : Nat) (ds : List Deed), Sk c' s' ∧ c' ≤ c2 + 10000 ∧ ds.length ≤ 60 ∧ (∀ e ∈ ds, e.ok m) ∧ ρ = [some s', some (.dat (.int m)), some (.dat (.lst (words2.map .str))), some (.dat (.int n)), some (.dat (.lst (ds.map Deed.d))), none]) ?_ fun g hg => ?_
    rotate_left
    · simp
      refine ⟨by omega, lc_inv (fun i acc ρ => ∃ (s' : SV) (c' : Nat) (ds : List Deed), Sk c' s' ∧ c' ≤ c2 + 100 * i ∧ ds.length = i ∧ (∀ e ∈ ds, e.ok m) ∧ acc = ds.map (fun e => SV.dat e.d) ∧ ρ = [some s', some (.dat (.int m)), some (.dat (.lst (words2.map .str))), some (.dat (.int n)), none, none]) ⟨s2, c2, [], k2, by omega, rfl, by simp, rfl, rfl⟩ ?_ ?_⟩
      · rintro i d acc ρ hd ⟨s3, c3, ds, k3, e3, ld, od, rfl, rfl⟩
        obtain ⟨rfl, hi⟩ := rg_get hd
        refine ⟨by simp [plainB], ?_⟩
        simp [wipeR, unwipe, cDeed]
        refine ⟨c3, m, rfl, words2, rfl, k3, by omega, m1, m2, by simp [words2], by simp [words2], fun z hz => by simp [words2] at hz; simp [words]; rcases hz with h | h | h | h | h <;> simp [h], fun e s4 c4 oe k4 e4 => ?_⟩
        have lm : (ds.map fun e => SV.dat e.d).length = ds.length := by simp
        refine ⟨by omega, s4, c4, k4, by omega, ds ++ [e], by simp [ld], ?_, by simp, rfl⟩
        intro a ha
        rcases List.mem_append.mp ha with ha | ha
        · exact od a ha
        · rw [List.mem_singleton.mp ha]; exact oe
      · rintro acc ρ ⟨s3, c3, ds, k3, e3, ld, od, rfl, rfl⟩
        have lr : (rgD 0 1 n).length = n := by simp [rgD]
        rw [lr] at e3 ld
        simp
        exact hg _ ⟨s3, c3, ds, k3, by omega, by omega, od, by simp [Function.comp_def]⟩
    rintro ρ ⟨s3, c3, ds, k3, e3, ld, od, rfl⟩
    simp [cVats]
    refine ⟨c3, m, rfl, k3, by omega, m1, m2, fun vs s5 c5 hv lv k5 e5 => ?_⟩
    have := q vs ds s5 c5 hv ld (by rw [lv]; exact od) k5 (by omega)
    simpa [Function.comp_def, dShape] using this
theorem b__law_pv_long {k : Nat} {C : Ctr} (G : FnG P w K mg base CX0 k f fd (["sack"] : List Str) (spD K C)) (F : FunD K "_law_pv_long" "_law_pv_long" (defArgs s__law_pv_long) (defBody s__law_pv_long) (defScope s__law_pv_long) [] [] f fd) (hm : mg "_law_pv_long" = some (.ref f)) : Hs P w K mg base "_law_pv_long" (["sack"] : List Str) k C := by
  refine hsF G hm F ?_
  intro kV doc pm an cdv ct us hl
  match us, hl with
  | [u0], _ => rfl

theorem g__law_pv_wide (F : FunD K "_law_pv_wide" "_law_pv_wide" (defArgs s__law_pv_wide) (defBody s__law_pv_wide) (defScope s__law_pv_wide) [] [] f fd)  (h__law_pv_coin : Hs P w K mg base "_law_pv_coin" ["sack", "many"] 1 cCoin) (h__law_pv_ratio : Hs P w K mg base "_law_pv_ratio" ["up", "down"] 2 cRed) :
    FnG P w K mg base CX0 (3) f fd (["sack"] : List Str) (spD K cWidth) := by
  have S : FnScope (["sack", "down"] : List Str) (["sack"] : List Str) (defScope s__law_pv_wide) := ⟨rfl, rfl, rfl, by decide +kernel, rfl, by decide +kernel, by decide +kernel⟩
  have nd : (["sack", "down"] : List Str).Nodup := by decide +kernel
  refine okF (k := 2) [0] F S (fun cdv A outer s H E hr => (ss_cons (s_set (i := 1) nd (ve (p_add (vo c_int) (vo (ev (e_call h__law_pv_coin (hr.mono (by omega)) (a_ref 0 (pv 0) rfl (a_val (ve (v_ix (vo (ev (e_lst (g_cons (ve c_int) (g_cons (ve c_int) (g_cons (ve c_int) g_nil)))))) (vo (ev (e_call h__law_pv_coin (hr.mono (by omega)) (a_ref 0 (pv 0) rfl (a_val (ve c_int) a_nil))))))) a_nil))))))))
    (ss_one (s_ret (e_call h__law_pv_ratio (hr.mono (by omega)) (a_val (ve (p_add (vo c_int) (vo (ev (e_call h__law_pv_coin (hr.mono (by omega)) (a_ref 0 (pv 0) rfl (a_val (ve (v_ix (vo (ev (e_lst (g_cons (ve c_int) (g_cons (ve c_int) (g_cons (ve c_int) g_nil)))))) (vo (ev (e_call h__law_pv_coin (hr.mono (by omega)) (a_ref 0 (pv 0) rfl (a_val (ve c_int) a_nil))))))) a_nil))))))) (a_val (ve (n_v 1 (pv 1) rfl)) a_nil))))))) ?_ rfl ?_
  · rintro as Q ⟨s, c, rfl, _⟩; rfl
  · rintro as Q ⟨s, c, rfl, hs, hc, q⟩
    simp [cCoin]
    refine ⟨c, hs, by omega, smc, fun n s1 c1 n0 n1 k1 e1 => ?_⟩
    obtain ⟨v, ev, hv⟩ := at3 (a := 1) (b := 6) (c := 40) n0 n1
    have v0 : 1 ≤ v ∧ v ≤ 40 := by rcases hv with rfl | rfl | rfl <;> omega
    refine ⟨_, ev, c1, v, rfl, k1, by omega, by omega, sm_of (b := 40) (by omega) (by omega), fun n2 s2 c2 m0 m1 k2 e2 => ?_⟩
    refine ⟨c2, k2, by omega, smc, fun n3 s3 c3 p0 p1 k3 e3 => ?_⟩
    obtain ⟨v2, ev2, hv2⟩ := at3 (a := 4) (b := 30) (c := 1000) p0 p1
    have v20 : 1 ≤ v2 ∧ v2 ≤ 1000 := by rcases hv2 with rfl | rfl | rfl <;> omega
    refine ⟨_, ev2, c3, v2, rfl, k3, by omega, by omega, sm_of (b := 1000) (by omega) (by omega), fun n4 s4 c4 q0 q1 k4 e4 => ?_⟩
    refine ⟨1 + n4, 1 + n2, rfl, by omega, sm_of (b := 1000) (by omega) (by omega), ?_⟩
    simp
    exact q _ s4 c4 (divI_pos (by omega) (by omega)) (Qb.of (sm_of (b := 1000) (by omega) (by omega)) (sm_of (b := 1000) (by omega) (by omega)) (by omega)) k4 (by omega)
theorem b__law_pv_wide {k : Nat} {C : Ctr} (G : FnG P w K mg base CX0 k f fd (["sack"] : List Str) (spD K C)) (F : FunD K "_law_pv_wide" "_law_pv_wide" (defArgs s__law_pv_wide) (defBody s__law_pv_wide) (defScope s__law_pv_wide) [] [] f fd) (hm : mg "_law_pv_wide" = some (.ref f)) : Hs P w K mg base "_law_pv_wide" (["sack"] : List Str) k C := by
  refine hsF G hm F ?_
  intro kV doc pm an cdv ct us hl
  match us, hl with
  | [u0], _ => rfl

theorem g__law_pv_any_wide (F : FunD K "_law_pv_any_wide" "_law_pv_any_wide" (defArgs s__law_pv_any_wide) (defBody s__law_pv_any_wide) (defScope s__law_pv_any_wide) [] [] f fd)  (h__law_pv_coin : Hs P w K mg base "_law_pv_coin" ["sack", "many"] 1 cCoin) (h__law_pv_wide : Hs P w K mg base "_law_pv_wide" ["sack"] 3 cWidth) (h__law_pv_ratio : Hs P w K mg base "_law_pv_ratio" ["up", "down"] 2 cRed) :
    FnG P w K mg base CX0 (4) f fd (["sack"] : List Str) (spD K cWidthA) := by
  have S : FnScope (["sack"] : List Str) (["sack"] : List Str) (defScope s__law_pv_any_wide) := ⟨rfl, rfl, rfl, by decide +kernel, rfl, by decide +kernel, by decide +kernel⟩
  have nd : (["sack"] : List Str).Nodup := by decide +kernel
  refine okF (k := 3) [0] F S (fun cdv A outer s H E hr => (ss_cons (s_if (q_gt (vo (ev (e_call h__law_pv_coin (hr.mono (by omega)) (a_ref 0 (pv 0) rfl (a_val (ve c_int) a_nil))))) (vo c_int)) (ss_one (s_ret (e_call h__law_pv_wide (hr.mono (by omega)) (a_ref 0 (pv 0) rfl a_nil)))) ss_nil)
    (ss_one (s_ret (e_call h__law_pv_ratio (hr.mono (by omega)) (a_val (ve (p_add (vo c_int) (vo (ev (e_call h__law_pv_coin (hr.mono (by omega)) (a_ref 0 (pv 0) rfl (a_val (ve (p_pow (vo c_int) (vo c_int))) a_nil))))))) (a_val (ve (p_add (vo c_int) (vo (ev (e_call h__law_pv_coin (hr.mono (by omega)) (a_ref 0 (pv 0) rfl (a_val (ve (p_pow (vo c_int) (vo c_int))) a_nil))))))) a_nil))))))) ?_ rfl ?_
  · rintro as Q ⟨s, c, rfl, _⟩; rfl
  · rintro as Q ⟨s, c, rfl, hs, hc, q⟩
    simp [cCoin, cWidth]
    refine ⟨c, hs, by omega, smc, fun n s1 c1 n0 n1 k1 e1 => ?_⟩
    rcases Int.lt_or_le 0 n with y | y
    · exact .inr ⟨y, c1, k1, by omega, fun x s2 c2 x0 qx k2 e2 => q x s2 c2 x0 qx k2 (by omega)⟩
    · refine .inl ⟨by omega, c1, k1, by omega, smc, fun n2 s2 c2 m0 m1 k2 e2 => ⟨c2, k2, by omega, smc, fun n3 s3 c3 p0 p1 k3 e3 => ?_⟩⟩
      refine ⟨1 + n2, 1 + n3, rfl, by omega, sm_of (b := 1000000000000000) (by omega) (by omega), ?_⟩
      simp
      exact q _ s3 c3 (divI_pos (by omega) (by omega)) (Qb.of (sm_of (b := 1000000000000000) (by omega) (by omega)) (sm_of (b := 1000000000000000) (by omega) (by omega)) (by omega)) k3 (by omega)
theorem b__law_pv_any_wide {k : Nat} {C : Ctr} (G : FnG P w K mg base CX0 k f fd (["sack"] : List Str) (spD K C)) (F : FunD K "_law_pv_any_wide" "_law_pv_any_wide" (defArgs s__law_pv_any_wide) (defBody s__law_pv_any_wide) (defScope s__law_pv_any_wide) [] [] f fd) (hm : mg "_law_pv_any_wide" = some (.ref f)) : Hs P w K mg base "_law_pv_any_wide" (["sack"] : List Str) k C := by
  refine hsF G hm F ?_
  intro kV doc pm an cdv ct us hl
  match us, hl with
  | [u0], _ => rfl

theorem g__law_pv_broads (F : FunD K "_law_pv_broads" "_law_pv_broads" (defArgs s__law_pv_broads) (defBody s__law_pv_broads) (defScope s__law_pv_broads) [] [] f fd)  :
    FnG P w K mg base CX0 (1) f fd (["vessels", "wide"] : List Str) (spD K cWidths) := by
  have S : FnScope (["vessels", "wide", "vessel"] : List Str) (["vessels", "wide"] : List Str) (defScope s__law_pv_broads) := ⟨rfl, rfl, rfl, by decide +kernel, rfl, by decide +kernel, by decide +kernel⟩
  have nd : (["vessels", "wide", "vessel"] : List Str).Nodup := by decide +kernel
  refine okF (k := 0) [] F S (fun cdv A outer s H E hr => (ss_one (s_ret (e_lc (own := [("vessel", 2)]) rfl nd (i_lt (n_v 0 (pv 0) rfl)) rfl (fun _ _ _ _ _ => (t_name (i := 2) nd)) (fun _ _ _ _ _ => ifs_nil) (fun _ _ _ _ _ => (e_if (q_isN (vo (v_ix (n_o 2 (pv 2) rfl) (vo c_int))) (vo c_non)) (ve (n_v 1 (pv 1) rfl)) (ve (v_tup (g_cons (ve (v_ix (n_o 2 (pv 2) rfl) (vo c_int))) (g_cons (ve c_int) g_nil)))))))))) ?_ rfl ?_
  · rintro as Q ⟨x, y, rfl, _⟩; rfl
  · rintro as Q ⟨vs, x, rfl, hn, q⟩
    simp
    refine lc_map (widD x) ?_ ?_ ?_ ?_
    · simp [sizeLine]; omega
    · simp [plainB]
    · intro d hd R hR
      obtain ⟨v, _, rfl⟩ := List.mem_map.mp hd
      obtain ⟨w, a⟩ := v
      cases w with
      | none =>
        simp [Vat.d, wipeR, unwipe, isN, tld]
        exact hR
      | some i =>
        simp [Vat.d, wipeR, unwipe, isN, tld]
        exact hR
    · rw [widD_all]
      exact q
theorem b__law_pv_broads {k : Nat} {C : Ctr} (G : FnG P w K mg base CX0 k f fd (["vessels", "wide"] : List Str) (spD K C)) (F : FunD K "_law_pv_broads" "_law_pv_broads" (defArgs s__law_pv_broads) (defBody s__law_pv_broads) (defScope s__law_pv_broads) [] [] f fd) (hm : mg "_law_pv_broads" = some (.ref f)) : Hs P w K mg base "_law_pv_broads" (["vessels", "wide"] : List Str) k C := by
  refine hsF G hm F ?_
  intro kV doc pm an cdv ct us hl
  match us, hl with
  | [u0, u1], _ => rfl

theorem g__law_pv_bench (F : FunD K "_law_pv_bench" "_law_pv_bench" (defArgs s__law_pv_bench) (defBody s__law_pv_bench) (defScope s__law_pv_bench) [] [] f fd)  (h__law_pv_copied : Hs P w K mg base "_law_pv_copied" ["thing"] 8 (cCopy 8)) (h__law_pv_coin : Hs P w K mg base "_law_pv_coin" ["sack", "many"] 1 cCoin) (mp_Bench_1_0 : HmP_ P w K mg base C_Bench "Bench" ["self", "tanks", "width"] ["width", "tanks"] [1, 0] 4 (cBInit C_Bench)) (mk_Bench : Hm_ P w K mg base C_Bench "Bench" ["self", "tanks", "width"] 4 (cBInit C_Bench)) :
    FnG P w K mg base CX0 (9) f fd (["sack", "vessels", "wide"] : List Str) (spD K (cBench C_Bench)) := by
  have S : FnScope (["sack", "vessels", "wide", "given", "made"] : List Str) (["sack", "vessels", "wide"] : List Str) (defScope s__law_pv_bench) := ⟨rfl, rfl, rfl, by decide +kernel, rfl, by decide +kernel, by decide +kernel⟩
  have nd : (["sack", "vessels", "wide", "given", "made"] : List Str).Nodup := by decide +kernel
  refine okF (k := 8) [0] F S (fun cdv A outer s H E hr => (ss_cons (s_set (i := 3) nd (e_call h__law_pv_copied (hr.mono (by omega)) (a_val (ve (n_v 1 (pv 1) rfl)) a_nil)))
    (ss_cons (s_set (i := 4) nd (e_if (q_eq hr.r (vo (ev (e_call h__law_pv_coin (hr.mono (by omega)) (a_ref 0 (pv 0) rfl (a_val (ve c_int) a_nil))))) (vo c_int)) (e_frz (e_makeP mp_Bench_1_0 (hr.mono (by omega)) (k_val (n_v 2 (pv 2) rfl) (k_val (n_v 3 (pv 3) rfl) k_nil)))) (e_frz (e_make mk_Bench (hr.mono (by omega)) (a_val (ve (n_v 3 (pv 3) rfl)) (a_val (ve (n_v 2 (pv 2) rfl)) a_nil))))))
    (ss_cons (s_expr (e_app 3 (pv 3) rfl (ve (v_tup (g_cons (ve c_int) (g_cons (ve c_int) g_nil)))) rfl (fun t h => pe_bm PySem.F.plainAttrs_list PySem.F.slot_list_append PySem.F.type_list_append mt_append (pv 3) h)))
    (ss_one (s_ret (n_mv 4 (pv 4) rfl))))))) ?_ rfl ?_
  · rintro as Q ⟨s, c, vs, x, rfl, _⟩; rfl
  · rintro as Q ⟨s, c, vs, x, rfl, hs, hc, hv, hx, q⟩
    have vl := hv.n
    refine cut (fun ρ => ρ = [some s, some (.dat (.lst (vs.map Vat.d))), some (.dat (rT x)), some (.own ((vs.map Vat.d).map .dat)), none]) ?_ fun g hg => ?_
    rotate_left
    · simp [cCopy]
      refine ⟨okC_vats hv, ?_⟩
      rw [cp_vats]
      exact hg _ rfl
    rintro ρ rfl
    refine cut (fun ρ => ∃ (t s' : SV) (c' : Nat), BT C_Bench ⟨vs, x, [], false⟩ t ∧ Sk c' s' ∧ c' ≤ c + 1 ∧ ρ = [some s', some (.dat (.lst (vs.map Vat.d))), some (.dat (rT x)), some (.own ((vs.map Vat.d).map .dat)), some t]) ?_ fun g hg => ?_
    rotate_left
    · simp [cCoin]
      refine ⟨c, hs, by omega, smc, fun n s1 c1 n0 n1 k1 e1 => ?_⟩
      simp [cBInit, Function.comp_def]
      by_cases z : n = 0
      · rw [if_pos z]
        exact ⟨vs, rfl, hv, hx, fun t ht fl => ⟨fl, hg _ ⟨t, s1, c1, ht, k1, e1, by simp [Function.comp_def]⟩⟩⟩
      · rw [if_neg z]
        exact ⟨[.lst (vs.map Vat.d), rT x], rfl, vs, x, rfl, hv, hx, fun t ht fl => ⟨fl, hg _ ⟨t, s1, c1, ht, k1, e1, by simp [Function.comp_def]⟩⟩⟩
    rintro ρ ⟨t, s', c', ht, hs', hc', rfl⟩
    simp
    exact ⟨by omega, q t s' c' ht hs' hc'⟩
theorem b__law_pv_bench {k : Nat} {C : Ctr} (G : FnG P w K mg base CX0 k f fd (["sack", "vessels", "wide"] : List Str) (spD K C)) (F : FunD K "_law_pv_bench" "_law_pv_bench" (defArgs s__law_pv_bench) (defBody s__law_pv_bench) (defScope s__law_pv_bench) [] [] f fd) (hm : mg "_law_pv_bench" = some (.ref f)) : Hs P w K mg base "_law_pv_bench" (["sack", "vessels", "wide"] : List Str) k C := by
  refine hsF G hm F ?_
  intro kV doc pm an cdv ct us hl
  match us, hl with
  | [u0, u1, u2], _ => rfl

theorem g__law_pv_does (F : FunD K "_law_pv_does" "_law_pv_does" (defArgs s__law_pv_does) (defBody s__law_pv_does) (defScope s__law_pv_does) [] [] f fd)  (h__law_pv_copied : Hs P w K mg base "_law_pv_copied" ["thing"] 8 (cCopy 8)) (h__law_pv_coin : Hs P w K mg base "_law_pv_coin" ["sack", "many"] 1 cCoin) (m_isinstance : mg "isinstance" = none) (m_list : mg "list" = none) (m_len : mg "len" = none) (in_Bench_step : Hin_ P w K mg base C_Bench ["self", "step"] ["step"] 9 (cBCall C_Bench)) (in_Bench : Hin_ P w K mg base C_Bench ["self", "step"] [] 9 (cBCall C_Bench)) :
    FnG P w K mg base CX0 (10) f fd (["sack", "made", "deed"] : List Str) (spD K (cDoes C_Bench)) := by
  have S : FnScope (["sack", "made", "deed", "given", "found"] : List Str) (["sack", "made", "deed"] : List Str) (defScope s__law_pv_does) := ⟨rfl, rfl, rfl, by decide +kernel, rfl, by decide +kernel, by decide +kernel⟩
  have nd : (["sack", "made", "deed", "given", "found"] : List Str).Nodup := by decide +kernel
  refine okF (k := 9) [0, 1] F S (fun cdv A outer s H E hr => (ss_cons (s_set (i := 3) nd (e_call h__law_pv_copied (hr.mono (by omega)) (a_val (ve (n_v 2 (pv 2) rfl)) a_nil)))
    (ss_cons (s_set (i := 4) nd (ve (ev (e_if (q_eq hr.r (vo (ev (e_call h__law_pv_coin (hr.mono (by omega)) (a_ref 0 (pv 0) rfl (a_val (ve c_int) a_nil))))) (vo c_int)) (e_instK1 in_Bench_step (hr.mono (by omega)) (pv 1) rfl (pv 3) rfl) (e_inst1 in_Bench (hr.mono (by omega)) (pv 1) rfl (pv 3) rfl)))))
    (ss_cons (s_if (t_w (w_and (q_gt (vo (ev (e_frz (ve (p_len m_len (os_cons (n_o 3 (pv 3) rfl) os_nil)))))) (vo c_int)) (w_and1 (t_val (ev (e_frz (ve (p_isi m_isinstance (os_cons (vo (v_ix (n_o 3 (pv 3) rfl) (vo c_int))) (os_cons (vo (c_list m_list)) os_nil)))))))))) (ss_one (s_expr (e_papp (q_i (q_n 3 (pv 3) rfl) k_int) (c_frz (ve c_int))))) ss_nil)
    (ss_one (s_ret (ve (n_v 4 (pv 4) rfl)))))))) ?_ rfl ?_
  · rintro as Q ⟨s, c, b, e, t, rfl, _⟩; rfl
  · rintro as Q ⟨s, c, b, e, t, rfl, hs, hc, ht, ok, ho, he, hn, q⟩
    have vl := ok.v.n
    refine cut (fun ρ => ρ = [some s, some t, some (.dat e.d), some e.t, none]) ?_ fun g hg => ?_
    rotate_left
    · simp [cCopy]
      refine ⟨okC_deed (n := 4) he vl.2, ?_⟩
      rw [cp_deed]
      exact hg _ rfl
    rintro ρ rfl
    refine cut (fun ρ => ∃ (t' s' : SV) (c' : Nat), BT C_Bench ⟨b.vs, b.x, b.E ++ [e], endW b.ws b.u e⟩ t' ∧ Sk c' s' ∧ c' ≤ c + 1 ∧ ρ = [some s', some t', some (.dat e.d), some e.t, some (.dat (.bl (endW b.ws b.u e)))]) ?_ fun g hg => ?_
    rotate_left
    · obtain ⟨W, T, et, _, _⟩ := ht.ex
      simp [cCoin, cBCall]
      refine ⟨c, hs, by omega, smc, fun n s1 c1 n0 n1 k1 e1 => ?_⟩
      exact ⟨⟨_, et⟩, b, ht, ok, ho, e, e.t_data, he, hn, fun t' ht' => hg _ ⟨t', s1, c1, ht', k1, e1, rfl⟩⟩
    rintro ρ ⟨t', s', c', ht', hs', hc', rfl⟩
    have q1 := q t' s' c' ht' hs' hc'
    cases e with
    | op ks =>
      have ln : (nI ks).length ≤ 20 := by have := he.2.1; simpa [nI] using this
      simp [Deed.t, dTy, oI_data, dI, oI_tI]
      exact ⟨by omega, q1⟩
    | _ => simp [Deed.t, Deed.d, dTy, rT]; exact q1
theorem b__law_pv_does {k : Nat} {C : Ctr} (G : FnG P w K mg base CX0 k f fd (["sack", "made", "deed"] : List Str) (spD K C)) (F : FunD K "_law_pv_does" "_law_pv_does" (defArgs s__law_pv_does) (defBody s__law_pv_does) (defScope s__law_pv_does) [] [] f fd) (hm : mg "_law_pv_does" = some (.ref f)) : Hs P w K mg base "_law_pv_does" (["sack", "made", "deed"] : List Str) k C := by
  refine hsF G hm F ?_
  intro kV doc pm an cdv ct us hl
  match us, hl with
  | [u0, u1, u2], _ => rfl

theorem g__law_pv_capped (F : FunD K "_law_pv_capped" "_law_pv_capped" (defArgs s__law_pv_capped) (defBody s__law_pv_capped) (defScope s__law_pv_capped) [] [] f fd)  (h__law_pv_long : Hs P w K mg base "_law_pv_long" ["sack"] 5 cShape) (m_len : mg "len" = none) :
    FnG P w K mg base CX0 (6) f fd (["sack"] : List Str) (spD K cShape) := by
  have S : FnScope (["sack", "vessels", "deeds"] : List Str) (["sack"] : List Str) (defScope s__law_pv_capped) := ⟨rfl, rfl, rfl, by decide +kernel, rfl, by decide +kernel, by decide +kernel⟩
  have nd : (["sack", "vessels", "deeds"] : List Str).Nodup := by decide +kernel
  refine okF (k := 5) [0] F S (fun cdv A outer s H E hr => (ss_cons (s_asg (ev (e_call h__law_pv_long (hr.mono (by omega)) (a_ref 0 (pv 0) rfl a_nil))) (t_tup (n := 2) rfl (ts_cons (t_name (i := 1) nd) (ts_cons (t_name (i := 2) nd) ts_nil))))
    (ss_one (s_ret (ve (v_tup (g_cons (ve (n_v 1 (pv 1) rfl)) (g_cons (e_sl (n_o 2 (pv 2) rfl) s_none (s_some (vo (p_div (vo c_int) (vo (p_len m_len (os_cons (n_o 1 (pv 1) rfl) os_nil))))))) g_nil)))))))) ?_ rfl ?_
  · rintro as Q ⟨s, c, rfl, _⟩; rfl
  · rintro as Q ⟨s, c, rfl, hs, hc, q⟩
    simp [cShape]
    refine ⟨c, hs, hc, fun vs ds s1 c1 hv ld od k1 e1 => ?_⟩
    have vl := hv.n
    have ep : (Int.fdiv 240 (vs.length : Int)) = ((240 / vs.length : Nat) : Int) := by
      rw [Int.fdiv_eq_ediv_of_nonneg _ (by omega)]
      simp
    have fin := q vs (ds.take (240 / vs.length)) s1 c1 hv (by simp; omega) (fun e m => od e (List.mem_of_mem_take m)) k1 e1
    simp [dShape]
    refine ⟨by intro z; subst z; simp at vl, Sm.pylong (k := 5) _ (by unfold Sm; simp; omega), ?_⟩
    rw [ep, cut_take]
    simpa [dShape, Function.comp_def, List.map_take] using fin
theorem b__law_pv_capped {k : Nat} {C : Ctr} (G : FnG P w K mg base CX0 k f fd (["sack"] : List Str) (spD K C)) (F : FunD K "_law_pv_capped" "_law_pv_capped" (defArgs s__law_pv_capped) (defBody s__law_pv_capped) (defScope s__law_pv_capped) [] [] f fd) (hm : mg "_law_pv_capped" = some (.ref f)) : Hs P w K mg base "_law_pv_capped" (["sack"] : List Str) k C := by
  refine hsF G hm F ?_
  intro kV doc pm an cdv ct us hl
  match us, hl with
  | [u0], _ => rfl

theorem g__law_pv_any_shape (F : FunD K "_law_pv_any_shape" "_law_pv_any_shape" (defArgs s__law_pv_any_shape) (defBody s__law_pv_any_shape) (defScope s__law_pv_any_shape) [] [] f fd)  (h__law_pv_coin : Hs P w K mg base "_law_pv_coin" ["sack", "many"] 1 cCoin) (h__law_pv_capped : Hs P w K mg base "_law_pv_capped" ["sack"] 6 cShape) (h__law_pv_shape : Hs P w K mg base "_law_pv_shape" ["sack"] 5 cShape) :
    FnG P w K mg base CX0 (7) f fd (["sack"] : List Str) (spD K cAny) := by
  have S : FnScope (["sack"] : List Str) (["sack"] : List Str) (defScope s__law_pv_any_shape) := ⟨rfl, rfl, rfl, by decide +kernel, rfl, by decide +kernel, by decide +kernel⟩
  have nd : (["sack"] : List Str).Nodup := by decide +kernel
  refine okF (k := 6) [0] F S (fun cdv A outer s H E hr => (ss_cons (s_if (q_eq hr.r (vo (ev (e_call h__law_pv_coin (hr.mono (by omega)) (a_ref 0 (pv 0) rfl (a_val (ve c_int) a_nil))))) (vo c_int)) (ss_one (s_ret (ve (v_tup (g_cons (e_call h__law_pv_capped (hr.mono (by omega)) (a_ref 0 (pv 0) rfl a_nil)) (g_cons (ve c_int) g_nil)))))) ss_nil)
    (ss_one (s_ret (ve (v_tup (g_cons (e_call h__law_pv_shape (hr.mono (by omega)) (a_ref 0 (pv 0) rfl a_nil)) (g_cons (ve c_int) g_nil)))))))) ?_ rfl ?_
  · rintro as Q ⟨s, c, rfl, _⟩; rfl
  · rintro as Q ⟨s, c, rfl, hs, hc, q⟩
    simp [cCoin, cShape]
    refine ⟨c, hs, by omega, smc, fun n s1 c1 n0 n1 k1 e1 => ?_⟩
    split
    · exact ⟨c1, k1, by omega, fun vs ds s2 c2 hv ld od k2 e2 => q vs ds _ s2 c2 hv ld od (by omega) (by omega) k2 (by omega)⟩
    · exact ⟨c1, k1, by omega, fun vs ds s2 c2 hv ld od k2 e2 => q vs ds _ s2 c2 hv ld od (by omega) (by omega) k2 (by omega)⟩
theorem b__law_pv_any_shape {k : Nat} {C : Ctr} (G : FnG P w K mg base CX0 k f fd (["sack"] : List Str) (spD K C)) (F : FunD K "_law_pv_any_shape" "_law_pv_any_shape" (defArgs s__law_pv_any_shape) (defBody s__law_pv_any_shape) (defScope s__law_pv_any_shape) [] [] f fd) (hm : mg "_law_pv_any_shape" = some (.ref f)) : Hs P w K mg base "_law_pv_any_shape" (["sack"] : List Str) k C := by
  refine hsF G hm F ?_
  intro kV doc pm an cdv ct us hl
  match us, hl with
  | [u0], _ => rfl

theorem g__law_pv_lists (F : FunD K "_law_pv_lists" "_law_pv_lists" (defArgs s__law_pv_lists) (defBody s__law_pv_lists) (defScope s__law_pv_lists) [] [] f fd)  (n : Nat) (h__law_pv_lists : Hs P w K mg base "_law_pv_lists" ["thing"] n (cLists n)) (m_isinstance : mg "isinstance" = none) (m_list : mg "list" = none) (m_tuple : mg "tuple" = none) :
    FnG P w K mg base CX0 (n + 1) f fd (["thing"] : List Str) (spD K (cLists (n + 1))) := by
  have S : FnScope (["thing", "found", "part"] : List Str) (["thing"] : List Str) (defScope s__law_pv_lists) := ⟨rfl, rfl, rfl, by decide +kernel, rfl, by decide +kernel, by decide +kernel⟩
  have nd : (["thing", "found", "part"] : List Str).Nodup := by decide +kernel
  refine okF (k := n) [] F S (fun cdv A outer s H E hr => (ss_cons (s_set (i := 1) nd (e_lst g_nil))
    (ss_cons (s_if (t_val (p_isi m_isinstance (os_cons (n_o 0 (pv 0) rfl) (os_cons (vo (c_list m_list)) os_nil)))) (ss_one (s_expr (e_app 1 (pv 1) rfl (ve (n_v 0 (pv 0) rfl)) rfl (fun t h => pe_bm PySem.F.plainAttrs_list PySem.F.slot_list_append PySem.F.type_list_append mt_append (pv 1) h)))) ss_nil)
    (ss_cons (s_if (t_val (p_isi m_isinstance (os_cons (n_o 0 (pv 0) rfl) (os_cons (vo (v_tup (g_cons (ve (c_list m_list)) (g_cons (ve (c_tuple m_tuple)) g_nil)))) os_nil)))) (ss_one (s_for PassesOwn.never rfl (i_lt (n_v 0 (pv 0) rfl)) (t_name (i := 2) nd) (ss_one (s_set (i := 1) nd (e_add (ve (n_sl 1 (pv 1) rfl)) (e_call h__law_pv_lists (hr.mono (by omega)) (a_val (ve (n_v 2 (pv 2) rfl)) a_nil))))))) ss_nil)
    (ss_one (s_ret (n_mv 1 (pv 1) rfl))))))) ?_ rfl ?_
  · rintro as Q ⟨d, rfl, _⟩; rfl
  · rintro as Q ⟨d, rfl, h, q⟩
    have step : ∀ (t : DD) (init ds : List DD), (∀ d ∈ ds, okL n d) → init.length ≤ 1 → (labs ds).length < 2 ^ 24 - 1 → Q (.own ((init ++ labs ds).map .dat)) [.dat t] →
        forB (gSet [] 2) (fSet [] 1 (fAddE (vE (fSeal [] 1)) (fCall (cLists n) (aVal (vE (fVar 2)) aNil)))) ds
          { nx := fRet (fMove [] 1) { nx := fun ρ => Q (SV.dat DD.non) [SV.dat t], rt := fun r ρ => Q r [SV.dat t] }, rt := fun r ρ => Q r [SV.dat t] } [some (SV.dat t), some (SV.own (init.map .dat)), none] := by
      intro t init ds hok hi hz hq
      refine for_inv (fun i ρ => ∃ x : Option SV, ρ = [some (.dat t), some (.own ((init ++ labs (ds.take i)).map .dat)), x]) ⟨none, by simp [labs]⟩ ?_ ?_
      · rintro i d ρ hd ⟨x, rfl⟩
        have hl := labs_le ds (i + 1)
        have e := labs_step hd
        rw [e, List.length_append] at hl
        simp [cLists, e]
        exact ⟨hok d (List.mem_of_getElem? hd), by omega⟩
      · rintro ρ ⟨x, rfl⟩
        rw [List.take_length]
        simp
        simpa using hq
    cases d <;> (try simp only [okL] at h)
    case non => simpa [oIsi, dTy, labD] using q
    case bl => simpa [oIsi, dTy, labD] using q
    case int => simpa [oIsi, dTy, labD] using q
    case str => simpa [oIsi, dTy, labD] using q
    case tup l =>
      simp [oIsi, dTy]
      exact step (.tup l) [] l h.2.2 (by simp) (by omega) (by simpa [labD] using q)
    case at_ v d =>
      cases d with
      | lst l =>
        simp [oIsi, dTy]
        exact step _ [.at_ v (.lst l)] l h.2.2 (by simp) h.2.1 (by simpa [labD] using q)
      | _ => exact h.elim
theorem b__law_pv_lists {k : Nat} {C : Ctr} (G : FnG P w K mg base CX0 k f fd (["thing"] : List Str) (spD K C)) (F : FunD K "_law_pv_lists" "_law_pv_lists" (defArgs s__law_pv_lists) (defBody s__law_pv_lists) (defScope s__law_pv_lists) [] [] f fd) (hm : mg "_law_pv_lists" = some (.ref f)) : Hs P w K mg base "_law_pv_lists" (["thing"] : List Str) k C := by
  refine hsF G hm F ?_
  intro kV doc pm an cdv ct us hl
  match us, hl with
  | [u0], _ => rfl

theorem g__law_pv_marked (F : FunD K "_law_pv_marked" "_law_pv_marked" (defArgs s__law_pv_marked) (defBody s__law_pv_marked) (defScope s__law_pv_marked) [] [] f fd) (h__law_pv_lists : Hs P w K mg base "_law_pv_lists" ["thing"] 8 (cLists 8)) (m_len : mg "len" = none) (m_range : mg "range" = none) (m_repr : mg "repr" = none) (kl : LimK K) :
    FnG P w K mg base CX0 (9) f fd (["thing"] : List Str) (spD K cMark) := by
  have S : FnScope (["thing", "some", "k"] : List Str) (["thing"] : List Str) (defScope s__law_pv_marked) := ⟨rfl, rfl, rfl, by decide +kernel, rfl, by decide +kernel, by decide +kernel⟩
  have nd : (["thing", "some", "k"] : List Str).Nodup := by decide +kernel
  obtain ⟨fl, fdl, l1, l2, l3, l4⟩ := h__law_pv_lists
  refine mark_fn (k := 8) (Ex := fun _ _ _ => False) F S rfl rfl fun cdv A outer s H E hr => ?_
  exact pss_cons (ps_set nd rfl (Or.inl rfl) (pe_callG l4 (hr.mono (by omega)) rfl l1 l2 l3 pass0 (pa_cons (pv 0) pa_nil)))
    (pss_cons (ps_for PassesOwn.never rfl (pi_range1 rfl m_range (pa_cons (pe_callB call_len_seq rfl m_len PySem.boot_len (pa_cons (pv 1) pa_nil)) pa_nil)) (pg_name nd rfl (Or.inl rfl))
      (pss_one (ps_expr (pe_bm PySem.F.plainAttrs_list PySem.F.slot_list_append PySem.F.type_list_append mt_append (pe_ix ix_seq (pv 1) (pv 2) (fun _ _ => rfl)) (pa_cons (pv 2) pa_nil)))))
      (pss_one (ps_ret (pe_callB (call_reprD kl hr) rfl m_repr PyProof.Rows.boot_repr (pa_cons (pv 0) pa_nil)))))
theorem b__law_pv_marked {k : Nat} {C : Ctr} (G : FnG P w K mg base CX0 k f fd (["thing"] : List Str) (spD K C)) (F : FunD K "_law_pv_marked" "_law_pv_marked" (defArgs s__law_pv_marked) (defBody s__law_pv_marked) (defScope s__law_pv_marked) [] [] f fd) (hm : mg "_law_pv_marked" = some (.ref f)) : Hs P w K mg base "_law_pv_marked" (["thing"] : List Str) k C := by
  refine hsF G hm F ?_
  intro kV doc pm an cdv ct us hl
  match us, hl with
  | [u0], _ => rfl

theorem g__law_pv_right (F : FunD K "_law_pv_right" "_law_pv_right" (defArgs s__law_pv_right) (defBody s__law_pv_right) (defScope s__law_pv_right) [] [] f fd)  (h__law_pv_marked : Hs P w K mg base "_law_pv_marked" ["thing"] 9 cMark) (h__law_pv_copied : Hs P w K mg base "_law_pv_copied" ["thing"] 8 (cCopy 8)) (m_repr : mg "repr" = none) (kl : LimK K) :
    FnG P w K mg base CX0 (10) f fd (["found", "due"] : List Str) (spD K cRight) := by
  have S : FnScope (["found", "due"] : List Str) (["found", "due"] : List Str) (defScope s__law_pv_right) := ⟨rfl, rfl, rfl, by decide +kernel, rfl, by decide +kernel, by decide +kernel⟩
  have nd : (["found", "due"] : List Str).Nodup := by decide +kernel
  refine okF (k := 9) [0] F S (fun cdv A outer s H E hr => (ss_cons (s_if (q_neS (vo (p_repr kl hr m_repr (os_cons (n_o 0 (pv 0) rfl) os_nil))) (vo (p_repr kl hr m_repr (os_cons (n_o 1 (pv 1) rfl) os_nil)))) (ss_one (s_ret (ve c_bl))) ss_nil)
    (ss_one (s_ret (ve (p_eqS (vo (ev (e_call h__law_pv_marked (hr.mono (by omega)) (a_ref 0 (pv 0) rfl a_nil)))) (vo (ev (e_call h__law_pv_marked (hr.mono (by omega)) (a_val (e_call h__law_pv_copied (hr.mono (by omega)) (a_val (ve (n_v 1 (pv 1) rfl)) a_nil)) a_nil)))))))))) ?_ rfl ?_
  · rintro as Q ⟨d, rfl, _⟩; rfl
  · rintro as Q ⟨d, rfl, h1, h2, h3, h4, h5, q⟩
    simp [cMark, cCopy, cp_data]
    exact ⟨h4, h2, by simpa using h3, h5, h1, h2, by simpa using h3, h5, q⟩
theorem b__law_pv_right {k : Nat} {C : Ctr} (G : FnG P w K mg base CX0 k f fd (["found", "due"] : List Str) (spD K C)) (F : FunD K "_law_pv_right" "_law_pv_right" (defArgs s__law_pv_right) (defBody s__law_pv_right) (defScope s__law_pv_right) [] [] f fd) (hm : mg "_law_pv_right" = some (.ref f)) : Hs P w K mg base "_law_pv_right" (["found", "due"] : List Str) k C := by
  refine hsF G hm F ?_
  intro kV doc pm an cdv ct us hl
  match us, hl with
  | [u0, u1], _ => rfl

theorem g_Script_init (F : FunD K "__init__" "Script.__init__" (defArgs s_Script_init) (defBody s_Script_init) (defScope s_Script_init) [] [] f fd)  (h_check_tanks : Hs P w K mg base "check_tanks" ["tanks"] 1 cChkT2) (h_check_step : Hs P w K mg base "check_step" ["step", "many"] 3 cChkS) (h_copied : Hs P w K mg base "copied" ["thing"] 8 (cCopy 8)) (m_len : mg "len" = none) (m_tuple : mg "tuple" = none) (cl_Script : Cls K C_Script) (na_kept_tanks : NoAttr K C_Script "kept_tanks") (na_kept_steps : NoAttr K C_Script "kept_steps") :
    FnG P w K mg base CX0 (9) f fd (["self", "tanks", "steps"] : List Str) (spD K (cInit C_Script)) := by
  have S : FnScope (["self", "tanks", "steps", "step"] : List Str) (["self", "tanks", "steps"] : List Str) (defScope s_Script_init) := ⟨rfl, rfl, rfl, by decide +kernel, rfl, by decide +kernel, by decide +kernel⟩
  have nd : (["self", "tanks", "steps", "step"] : List Str).Nodup := by decide +kernel
  refine okF (k := 8) [0] F S (fun cdv A outer s H E hr => (ss_cons (s_expr (e_call h_check_tanks (hr.mono (by omega)) (a_val (ve (n_v 1 (pv 1) rfl)) a_nil)))
    (ss_cons (s_for PassesOwn.never rfl (i_lt (n_v 2 (pv 2) rfl)) (t_name (i := 3) nd) (ss_one (s_expr (e_call h_check_step (hr.mono (by omega)) (a_val (ve (n_v 3 (pv 3) rfl)) (a_val (ve (p_len m_len (os_cons (n_o 1 (pv 1) rfl) os_nil))) a_nil))))))
    (ss_cons (s_pfld cl_Script na_kept_tanks (q_n 0 (pv 0) rfl) (e_tupT m_tuple (ve (n_v 1 (pv 1) rfl))))
    (ss_one (s_pfld cl_Script na_kept_steps (q_n 0 (pv 0) rfl) (e_tupT m_tuple (e_lc (own := [("step", 3)]) rfl nd (i_lt (n_v 2 (pv 2) rfl)) rfl (fun _ _ _ _ _ => (t_name (i := 3) nd)) (fun _ _ _ _ _ => ifs_nil) (fun _ _ _ _ _ => (e_call h_copied (hr.mono (by omega)) (a_val (ve (n_v 3 (pv 3) rfl)) a_nil))))))))))) ?_ rfl ?_
  · rintro as Q ⟨k, vs, n, rfl, _⟩; rfl
  · rintro as Q ⟨k, vs, ds, rfl, hv, hn, hd, q⟩
    cases k
    · simp [cChkT2]
      refine ⟨.t, vs, rfl, hv, ?_⟩
      refine for_inv (fun i ρ => ∃ x : Option SV, ρ = [some (.ob C_Script []), some (.dat (.tup (vs.map Vat.d))), some (.dat (.lst (ds.map Deed.d))), x] ∧ plainB ρ [3] = true) ⟨_, rfl, rfl⟩ ?_ ?_
      · rintro i d ρ hd2 ⟨x, rfl, hp⟩
        obtain ⟨e, m, rfl⟩ := List.mem_map.mp (List.mem_of_getElem? hd2)
        refine ⟨by simp, halt fun g2 hg2 => ?_⟩
        simp [cChkS]
        exact ⟨e, rfl, vs.length, rfl, hd e m, hv.n.2, hg2 _ ⟨_, rfl, rfl⟩⟩
      · rintro ρ ⟨x, rfl, hp⟩
        simp
        refine lc_map cp ?_ ?_ ?_ ?_
        · simp [sizeLine]; omega
        · simpa [plainB] using hp
        · intro d hm R hR
          obtain ⟨e, m, rfl⟩ := List.mem_map.mp hm
          simp [wipeR, unwipe, cCopy]
          exact ⟨okC_deed (n := 4) (hd e m) hv.n.2, hR⟩
        · rw [cp_deeds]
          refine .inl ⟨_, rfl, ?_⟩
          simp
          have ne : ¬ Str.ofString "kept_tanks" = Str.ofString "kept_steps" := by decide
          exact ⟨pu1, by simpa [putT, ne, sT] using q⟩
    · simp [cChkT2]
      refine ⟨.t, vs, rfl, hv, ?_⟩
      refine for_inv (fun i ρ => ∃ x : Option SV, ρ = [some (.ob C_Script []), some (.dat (.tup (vs.map Vat.d))), some (.dat (.tup (ds.map Deed.d))), x] ∧ plainB ρ [3] = true) ⟨_, rfl, rfl⟩ ?_ ?_
      · rintro i d ρ hd2 ⟨x, rfl, hp⟩
        obtain ⟨e, m, rfl⟩ := List.mem_map.mp (List.mem_of_getElem? hd2)
        refine ⟨by simp, halt fun g2 hg2 => ?_⟩
        simp [cChkS]
        exact ⟨e, rfl, vs.length, rfl, hd e m, hv.n.2, hg2 _ ⟨_, rfl, rfl⟩⟩
      · rintro ρ ⟨x, rfl, hp⟩
        simp
        refine lc_map cp ?_ ?_ ?_ ?_
        · simp [sizeLine]; omega
        · simpa [plainB] using hp
        · intro d hm R hR
          obtain ⟨e, m, rfl⟩ := List.mem_map.mp hm
          simp [wipeR, unwipe, cCopy]
          exact ⟨okC_deed (n := 4) (hd e m) hv.n.2, hR⟩
        · rw [cp_deeds]
          refine .inl ⟨_, rfl, ?_⟩
          simp
          have ne : ¬ Str.ofString "kept_tanks" = Str.ofString "kept_steps" := by decide
          exact ⟨pu1, by simpa [putT, ne, sT] using q⟩

theorem g_Script_tanks (F : FunD K "tanks" "Script.tanks" (defArgs s_Script_tanks) (defBody s_Script_tanks) (defScope s_Script_tanks) [] [] f fd)  (m_list : mg "list" = none) (cl_Script : Cls K C_Script) (na_kept_tanks : NoAttr K C_Script "kept_tanks") :
    FnG P w K mg base CX0 (1) f fd (["self"] : List Str) (spD K (cTanks C_Script)) := by
  have S : FnScope (["self"] : List Str) (["self"] : List Str) (defScope s_Script_tanks) := ⟨rfl, rfl, rfl, by decide +kernel, rfl, by decide +kernel, by decide +kernel⟩
  have nd : (["self"] : List Str).Nodup := by decide +kernel
  refine okF (k := 0) [] F S (fun cdv A outer s H E hr => (ss_one (s_ret (e_list m_list (vo (v_fld cl_Script na_kept_tanks (n_o 0 (pv 0) rfl))))))) ?_ rfl ?_
  · rintro as Q ⟨vs, n, rfl, _⟩; rfl
  · rintro as Q ⟨vs, ds, rfl, q⟩
    simp [sObj]
    simpa [sObj, Function.comp_def] using q

theorem g_Bench_script (F : FunD K "script" "Bench.script" (defArgs s_Bench_script) (defBody s_Bench_script) (defScope s_Bench_script) [] [] f fd)  (mk_Script : Hm_ P w K mg base C_Script "Script" ["self", "tanks", "steps"] 9 (cInit C_Script)) (cl_Bench : Cls K C_Bench) (na_done : NoAttr K C_Bench "done") (na_first_tanks : NoAttr K C_Bench "first_tanks") :
    FnG P w K mg base CX0 (11) f fd (["self"] : List Str) (spD K (cBScript C_Bench C_Script)) := by
  have S : FnScope (["self"] : List Str) (["self"] : List Str) (defScope s_Bench_script) := ⟨rfl, rfl, rfl, by decide +kernel, rfl, by decide +kernel, by decide +kernel⟩
  have nd : (["self"] : List Str).Nodup := by decide +kernel
  refine okF (k := 10) [] F S (fun cdv A outer s H E hr => (ss_one (s_ret (e_make mk_Script (hr.mono (by omega)) (a_val (ve (v_fld cl_Bench na_first_tanks (n_o 0 (pv 0) rfl))) (a_val (ve (v_fld cl_Bench na_done (n_o 0 (pv 0) rfl))) a_nil)))))) ?_ rfl ?_
  · rintro as Q ⟨b, rfl, _⟩; rfl
  · rintro as Q ⟨b, rfl, ok, q⟩
    simp [bD, cInit]
    have := ok.n
    exact ⟨[.tup (b.vs.map Vat.d), .lst (b.E.map Deed.d)], rfl, .l, b.vs, b.E, rfl, ok.v, by omega, ok.e, by simpa [bD] using q⟩

theorem g__law_pv_heights (F : FunD K "_law_pv_heights" "_law_pv_heights" (defArgs s__law_pv_heights) (defBody s__law_pv_heights) (defScope s__law_pv_heights) [] [] f fd)  (h__law_pv_ratio : Hs P w K mg base "_law_pv_ratio" ["up", "down"] 2 cRed) (m_range : mg "range" = none) (m_len : mg "len" = none) :
    FnG P w K mg base CX0 (3) f fd (["broads", "waters"] : List Str) (spD K cHeights) := by
  have S : FnScope (["broads", "waters", "k"] : List Str) (["broads", "waters"] : List Str) (defScope s__law_pv_heights) := ⟨rfl, rfl, rfl, by decide +kernel, rfl, by decide +kernel, by decide +kernel⟩
  have nd : (["broads", "waters", "k"] : List Str).Nodup := by decide +kernel
  refine okF (k := 2) [] F S (fun cdv A outer s H E hr => (ss_one (s_ret (e_lc (own := [("k", 2)]) rfl nd (i_rg1 m_range (os_cons (vo (p_len m_len (os_cons (n_o 1 (pv 1) rfl) os_nil))) os_nil)) rfl (fun _ _ _ _ _ => (t_name (i := 2) nd)) (fun _ _ _ _ _ => ifs_nil) (fun _ _ _ _ _ => (e_call h__law_pv_ratio (hr.mono (by omega)) (a_val (ve (p_mul (vo (v_ix (vo (v_ix (n_o 1 (pv 1) rfl) (n_o 2 (pv 2) rfl))) (vo c_int))) (vo (v_ix (vo (v_ix (n_o 0 (pv 0) rfl) (n_o 2 (pv 2) rfl))) (vo c_int))))) (a_val (ve (p_mul (vo (v_ix (vo (v_ix (n_o 1 (pv 1) rfl) (n_o 2 (pv 2) rfl))) (vo c_int))) (vo (v_ix (vo (v_ix (n_o 0 (pv 0) rfl) (n_o 2 (pv 2) rfl))) (vo c_int))))) a_nil)))))))) ?_ rfl ?_
  · rintro as Q ⟨x, D, ws, u, rfl, _⟩; rfl
  · rintro as Q ⟨x, D, ws, u, rfl, hl, hn, hD, sD, hu, hw, qx, q⟩
    have ll := levs_len hl
    simp [dQ]
    refine ⟨by omega, lc_map (gQ (levs ws u)) (by simp [sizeLine, rgD]; omega) (by simp [plainB]) ?_ ?_⟩
    · intro d hm R hR
      obtain ⟨j, hj, hje⟩ := List.getElem_of_mem hm
      obtain ⟨rfl, jn⟩ := rg_get ((List.getElem?_eq_getElem hj).trans (congrArg some hje))
      have jw : j < ws.length := by omega
      obtain ⟨a1, a2⟩ := hu.sz hD sD (getD_memQ jn)
      obtain ⟨b1, b2, _, _⟩ := hw.sz qx (getD_memQ jw)
      have e1 := ratsD_n jn
      have e2 := ratsD_n jw
      have e9 : gQ (levs ws u) (.int j) = .dat (rT (u.getD j 0 / ws.getD j 0)) := by
        show SV.dat (rT ((levs ws u).getD (Int.toNat j) 0)) = _
        rw [Int.toNat_natCast, levs_get hl jn]
      rw [e9] at hR
      have i0 : ∀ (m : Rat) (P : DD → Prop), P (.int m.num) → ixT (.dat (rT m)) 0 P := fun m P h => by simpa [rT] using h
      have i1 : ∀ (m : Rat) (P : DD → Prop), P (.int m.den) → ixT (.dat (rT m)) 1 P := fun m P h => by simpa [rT] using h
      have nw := num_pos b2
      have eL := rat_div (u.getD j 0) (ws.getD j 0) b2
      simp [wipeR, unwipe, cRed]
      generalize u.getD j 0 = a at *
      generalize ws.getD j 0 = b at *
      refine ⟨_, e1, i0 _ _ ⟨_, e2, i1 _ _ ⟨_, rfl, _, rfl, a1.n.ok b1.d, _, e1, i1 _ _ ⟨_, e2, i0 _ _ ⟨_, rfl, _, rfl, a1.d.ok b1.n, rden a, fun e => by rw [e] at nw; simp at nw, (a2.mul b1.n).mono (by decide), ?_⟩⟩⟩⟩⟩
      rw [eL]
      exact hR
    · rw [rg_gQ (levs ws u) (by omega)]
      simpa [oQ, dQ] using q
theorem b__law_pv_heights {k : Nat} {C : Ctr} (G : FnG P w K mg base CX0 k f fd (["broads", "waters"] : List Str) (spD K C)) (F : FunD K "_law_pv_heights" "_law_pv_heights" (defArgs s__law_pv_heights) (defBody s__law_pv_heights) (defScope s__law_pv_heights) [] [] f fd) (hm : mg "_law_pv_heights" = some (.ref f)) : Hs P w K mg base "_law_pv_heights" (["broads", "waters"] : List Str) k C := by
  refine hsF G hm F ?_
  intro kV doc pm an cdv ct us hl
  match us, hl with
  | [u0, u1], _ => rfl

theorem g__law_pv_over (F : FunD K "_law_pv_over" "_law_pv_over" (defArgs s__law_pv_over) (defBody s__law_pv_over) (defScope s__law_pv_over) [] [] f fd)  (h__law_pv_heights : Hs P w K mg base "_law_pv_heights" ["broads", "waters"] 3 cHeights) (h__law_pv_side : Hs P w K mg base "_law_pv_side" ["left", "right"] 1 cCmp) :
    FnG P w K mg base CX0 (4) f fd (["broads", "waters", "deed"] : List Str) (spD K cOver) := by
  have S : FnScope (["broads", "waters", "deed", "levels"] : List Str) (["broads", "waters", "deed"] : List Str) (defScope s__law_pv_over) := ⟨rfl, rfl, rfl, by decide +kernel, rfl, by decide +kernel, by decide +kernel⟩
  have nd : (["broads", "waters", "deed", "levels"] : List Str).Nodup := by decide +kernel
  refine okF (k := 3) [] F S (fun cdv A outer s H E hr => (ss_cons (s_if (q_neS (vo (v_ix (n_o 2 (pv 2) rfl) (vo c_int))) (vo c_str)) (ss_one (s_ret (ve c_bl))) ss_nil)
    (ss_cons (s_set (i := 3) nd (ve (ev (e_call h__law_pv_heights (hr.mono (by omega)) (a_val (ve (n_v 0 (pv 0) rfl)) (a_val (ve (n_v 1 (pv 1) rfl)) a_nil))))))
    (ss_one (s_ret (ve (p_gt (vo (ev (e_call h__law_pv_side (hr.mono (by omega)) (a_val (ve (v_ix (n_o 3 (pv 3) rfl) (vo (v_ix (n_o 2 (pv 2) rfl) (vo c_int))))) (a_val (ve (v_ix (n_o 3 (pv 3) rfl) (vo (v_ix (n_o 2 (pv 2) rfl) (vo c_int))))) a_nil))))) (vo c_int)))))))) ?_ rfl ?_
  · rintro as Q ⟨x, D, ws, u, e, rfl, _⟩; rfl
  · rintro as Q ⟨x, D, ws, u, e, rfl, hl, hn, hD, sD, hu, hw, hx, he, q⟩
    cases e with
    | un i j =>
      obtain ⟨hi, hj, hij⟩ := he
      have ll := levs_len hl
      have ei := ratsD_n (F := levs ws u) (k := i) (by omega)
      have ej := ratsD_n (F := levs ws u) (k := j) (by omega)
      have sz : ∀ k : Nat, k < u.length → Qb 30000 ((levs ws u).getD k 0) := fun k hk => by
        obtain ⟨a1, a2⟩ := hu.sz hD sD (getD_memQ hk)
        obtain ⟨b1, b2, _, _⟩ := hw.sz hx (getD_memQ (u := ws) (k := k) (by omega))
        rw [levs_get hl hk]
        exact (div_sz a1 b1 b2 a2).1.mono (by decide)
      simp [Deed.d, cHeights]
      refine ⟨x, D, ws, rfl, u, rfl, hl, by omega, hD, sD, hu, hw, hx, ?_⟩
      simp [cCmp, oQ_data, dQ]
      refine ⟨_, ei, _, ej, _, rfl, _, rfl, sz i hi, sz j hj, ?_⟩
      simp [cmpQ_gt]
      simpa [endW, Deed.d, dQ] using q
    | op ks => simpa [Deed.d, endW] using q
    | pr k a => simpa [Deed.d, endW] using q
    | sc k p => simpa [Deed.d, endW] using q
    | mv i j p => simpa [Deed.d, endW] using q
theorem b__law_pv_over {k : Nat} {C : Ctr} (G : FnG P w K mg base CX0 k f fd (["broads", "waters", "deed"] : List Str) (spD K C)) (F : FunD K "_law_pv_over" "_law_pv_over" (defArgs s__law_pv_over) (defBody s__law_pv_over) (defScope s__law_pv_over) [] [] f fd) (hm : mg "_law_pv_over" = some (.ref f)) : Hs P w K mg base "_law_pv_over" (["broads", "waters", "deed"] : List Str) k C := by
  refine hsF G hm F ?_
  intro kV doc pm an cdv ct us hl
  match us, hl with
  | [u0, u1, u2], _ => rfl

theorem g__law_pv_begun (F : FunD K "_law_pv_begun" "_law_pv_begun" (defArgs s__law_pv_begun) (defBody s__law_pv_begun) (defScope s__law_pv_begun) [] [] f fd)  :
    FnG P w K mg base CX0 (1) f fd (["vessels"] : List Str) (spD K cBegun) := by
  have S : FnScope (["vessels", "vessel"] : List Str) (["vessels"] : List Str) (defScope s__law_pv_begun) := ⟨rfl, rfl, rfl, by decide +kernel, rfl, by decide +kernel, by decide +kernel⟩
  have nd : (["vessels", "vessel"] : List Str).Nodup := by decide +kernel
  refine okF (k := 0) [] F S (fun cdv A outer s H E hr => (ss_one (s_ret (ve (v_tup (g_cons (e_lc (own := [("vessel", 1)]) rfl nd (i_lt (n_v 0 (pv 0) rfl)) rfl (fun _ _ _ _ _ => (t_name (i := 1) nd)) (fun _ _ _ _ _ => ifs_nil) (fun _ _ _ _ _ => (ve (v_tup (g_cons (ve (v_ix (n_o 1 (pv 1) rfl) (vo c_int))) (g_cons (ve c_int) g_nil)))))) (g_cons (ve c_non) (g_cons (e_lst g_nil) g_nil)))))))) ?_ rfl ?_
  · rintro as Q ⟨vs, rfl, _⟩; rfl
  · rintro as Q ⟨vs, rfl, hn, q⟩
    simp
    refine lc_map amtD ?_ ?_ ?_ ?_
    · simp [sizeLine]; omega
    · simp [plainB]
    · intro d hm R hR
      obtain ⟨⟨w, a⟩, m, rfl⟩ := List.mem_map.mp hm
      simp [Vat.d, wipeR, unwipe]
      cases w <;> exact hR
    · rw [amtD_all]
      have e4 : (SV.own ((amts vs).map fun q => SV.dat (rT q))).data = dQ (amts vs) := oQ_data _
      rw [e4]
      simpa [stD] using q
theorem b__law_pv_begun {k : Nat} {C : Ctr} (G : FnG P w K mg base CX0 k f fd (["vessels"] : List Str) (spD K C)) (F : FunD K "_law_pv_begun" "_law_pv_begun" (defArgs s__law_pv_begun) (defBody s__law_pv_begun) (defScope s__law_pv_begun) [] [] f fd) (hm : mg "_law_pv_begun" = some (.ref f)) : Hs P w K mg base "_law_pv_begun" (["vessels"] : List Str) k C := by
  refine hsF G hm F ?_
  intro kV doc pm an cdv ct us hl
  match us, hl with
  | [u0], _ => rfl

theorem g__law_pv_after (F : FunD K "_law_pv_after" "_law_pv_after" (defArgs s__law_pv_after) (defBody s__law_pv_after) (defScope s__law_pv_after) [] [] f fd)  (h__law_pv_add : Hs P w K mg base "_law_pv_add" ["left", "right"] 3 cAddR) (h__law_pv_mul : Hs P w K mg base "_law_pv_mul" ["left", "right"] 3 cMulR) (m_list : mg "list" = none) :
    FnG P w K mg base CX0 (4) f fd (["broads", "waters", "deed"] : List Str) (spD K cAfter) := by
  have S : FnScope (["broads", "waters", "deed", "total", "breadth", "k", "taken"] : List Str) (["broads", "waters", "deed"] : List Str) (defScope s__law_pv_after) := ⟨rfl, rfl, rfl, by decide +kernel, rfl, by decide +kernel, by decide +kernel⟩
  have nd : (["broads", "waters", "deed", "total", "breadth", "k", "taken"] : List Str).Nodup := by decide +kernel
  refine okF (k := 3) [] F S (fun cdv A outer s H E hr => (ss_cons (s_set (i := 1) nd (e_list m_list (n_o 1 (pv 1) rfl)))
    (ss_cons (s_if (q_eqS (vo (v_ix (n_o 2 (pv 2) rfl) (vo c_int))) (vo c_str)) (ss_one (s_setit 1 (pv 1) rfl (ev (e_call h__law_pv_add (hr.mono (by omega)) (a_val (ve (v_ix (n_o 1 (pv 1) rfl) (vo (v_ix (n_o 2 (pv 2) rfl) (vo c_int))))) (a_val (ve (v_tup (g_cons (ve (v_ix (n_o 2 (pv 2) rfl) (vo c_int))) (g_cons (ve c_int) g_nil)))) a_nil)))) (vo (v_ix (n_o 2 (pv 2) rfl) (vo c_int))))) ss_nil)
    (ss_cons (s_if (q_eqS (vo (v_ix (n_o 2 (pv 2) rfl) (vo c_int))) (vo c_str)) (ss_cons (s_asg (v_tup (g_cons (ve (v_tup (g_cons (ve c_int) (g_cons (ve c_int) g_nil)))) (g_cons (ve (v_tup (g_cons (ve c_int) (g_cons (ve c_int) g_nil)))) g_nil))) (t_tup (n := 2) rfl (ts_cons (t_name (i := 3) nd) (ts_cons (t_name (i := 4) nd) ts_nil))))
    (ss_cons (s_for PassesOwn.never rfl (i_lt (v_ix (n_o 2 (pv 2) rfl) (vo c_int))) (t_name (i := 5) nd) (ss_one (s_par (i := 3) (j := 4) rfl nd (g_cons (ve (ev (e_call h__law_pv_add (hr.mono (by omega)) (a_val (ve (n_v 3 (pv 3) rfl)) (a_val (ve (v_ix (n_o 1 (pv 1) rfl) (n_o 5 (pv 5) rfl))) a_nil))))) (g_cons (ve (ev (e_call h__law_pv_add (hr.mono (by omega)) (a_val (ve (n_v 4 (pv 4) rfl)) (a_val (ve (v_ix (n_o 0 (pv 0) rfl) (n_o 5 (pv 5) rfl))) a_nil))))) g_nil)))))
    (ss_one (s_for PassesOwn.never rfl (i_lt (v_ix (n_o 2 (pv 2) rfl) (vo c_int))) (t_name (i := 5) nd) (ss_one (s_setit 1 (pv 1) rfl (ev (e_call h__law_pv_mul (hr.mono (by omega)) (a_val (ve (ev (e_call h__law_pv_mul (hr.mono (by omega)) (a_val (ve (n_v 3 (pv 3) rfl)) (a_val (ve (v_ix (n_o 0 (pv 0) rfl) (n_o 5 (pv 5) rfl))) a_nil))))) (a_val (ve (v_tup (g_cons (ve (v_ix (n_o 4 (pv 4) rfl) (vo c_int))) (g_cons (ve (v_ix (n_o 4 (pv 4) rfl) (vo c_int))) g_nil)))) a_nil)))) (n_o 5 (pv 5) rfl))))))) ss_nil)
    (ss_cons (s_if (q_in (vo (v_ix (n_o 2 (pv 2) rfl) (vo c_int))) (vo (v_tup (g_cons (ve c_str) (g_cons (ve c_str) g_nil))))) (ss_cons (s_set (i := 6) nd (ve (ev (e_call h__law_pv_mul (hr.mono (by omega)) (a_val (ve (v_ix (n_o 1 (pv 1) rfl) (vo (v_ix (n_o 2 (pv 2) rfl) (vo c_int))))) (a_val (ve (v_ix (n_o 2 (pv 2) rfl) (vo (p_neg (vo c_int))))) a_nil))))))
    (ss_cons (s_setit 1 (pv 1) rfl (ev (e_call h__law_pv_add (hr.mono (by omega)) (a_val (ve (v_ix (n_o 1 (pv 1) rfl) (vo (v_ix (n_o 2 (pv 2) rfl) (vo c_int))))) (a_val (ve (v_tup (g_cons (ve (p_sub (vo c_int) (vo (v_ix (n_o 6 (pv 6) rfl) (vo c_int))))) (g_cons (ve (v_ix (n_o 6 (pv 6) rfl) (vo c_int))) g_nil)))) a_nil)))) (vo (v_ix (n_o 2 (pv 2) rfl) (vo c_int))))
    (ss_one (s_if (q_eqS (vo (v_ix (n_o 2 (pv 2) rfl) (vo c_int))) (vo c_str)) (ss_one (s_setit 1 (pv 1) rfl (ev (e_call h__law_pv_add (hr.mono (by omega)) (a_val (ve (v_ix (n_o 1 (pv 1) rfl) (vo (v_ix (n_o 2 (pv 2) rfl) (vo c_int))))) (a_val (ve (n_v 6 (pv 6) rfl)) a_nil)))) (vo (v_ix (n_o 2 (pv 2) rfl) (vo c_int))))) ss_nil)))) ss_nil)
    (ss_one (s_ret (n_mv 1 (pv 1) rfl)))))))) ?_ rfl ?_
  · rintro as Q ⟨x, D, ws, u, e, rfl, _⟩; rfl
  · rintro as Q ⟨x, D, ws, u, e, rfl, hl, hn, hD, sD, hu, hw, qx, he, q⟩
    refine cut (fun ρ => ρ = [some (.dat (dQ ws)), some (oQ u), some (.dat e.d), none, none, none, none]) ?_ fun g hg => ?_
    rotate_left
    · simp [dQ]
      exact hg _ (by simp [dQ, oQ, Function.comp_def])
    rintro ρ rfl
    have i0 : ∀ (m : Rat) (P : DD → Prop), P (.int m.num) → ixT (.dat (rT m)) 0 P := fun m P h => by simpa [rT] using h
    have i1 : ∀ (m : Rat) (P : DD → Prop), P (.int m.den) → ixT (.dat (rT m)) 1 P := fun m P h => by simpa [rT] using h
    cases e with
    | un i j =>
      simp [Deed.d]
      refine ⟨["scoop", "move"], rfl, ?_⟩
      rw [if_neg (by simp)]
      exact q
    | pr k a =>
      obtain ⟨hk, a1, a2⟩ := he
      have e1 := ratsO_n hk
      obtain ⟨c1, c2⟩ := hu.sz hD sD (getD_memQ hk)
      simp [dQ, Deed.d, Function.comp_def, cAddR, oQ]
      refine ⟨_, e1, _, rfl, (a : Rat), by simp [rT_int], c1.mono (by decide), (Qb.int (k := 30) (sm_of (b := 1000) (by omega) (by omega)) (by decide)).mono (by decide), (c2.mul (smc (k := 1) (n := ((a : Rat).den : Int)) (by simp))).mono (by decide), ?_⟩
      refine ⟨k, ixN_nat (by simpa using hk), ["scoop", "move"], rfl, ?_⟩
      rw [if_neg (by simp), setO]
      simpa [oQ, stepW, Deed.d, dQ] using q
    | sc k p =>
      obtain ⟨hk, hp⟩ := he
      have e1 := ratsO_n hk
      obtain ⟨c1, c2⟩ := hu.sz hD sD (getD_memQ hk)
      have ps := hp.sz
      have ms := c1.mul ps.1
      have md := den_mul2 (u.getD k 0) p c2 ps.2
      simp [dQ, Deed.d, Function.comp_def, cAddR, cMulR, oQ]
      refine ⟨["scoop", "move"], rfl, ?_⟩
      rw [if_pos (by simp)]
      refine ⟨_, e1, _, rfl, _, rfl, p, rfl, c1.mono (by decide), ps.1.mono (by decide), (c2.mul ps.2).mono (by decide), _, e1, i0 _ _ ⟨_, rfl, i1 _ _ ⟨_, rfl, -(u.getD k 0 * p), (rT_neg _).symm, c1.mono (by decide), ms.neg.mono (by decide), (c2.mul md).mono (by decide), k, ixN_nat hk, ?_⟩⟩⟩
      rw [setO]
      simpa [oQ, stepW, Deed.d, dQ] using q
    | mv i j p =>
      obtain ⟨hi, hj, hij, hp⟩ := he
      have e1 := ratsO_n hi
      obtain ⟨c1, c2⟩ := hu.sz hD sD (getD_memQ hi)
      obtain ⟨d1, d2⟩ := hu.sz hD sD (getD_memQ hj)
      have ps := hp.sz
      have ms := c1.mul ps.1
      have md := den_mul2 (u.getD i 0) p c2 ps.2
      simp [dQ, Deed.d, Function.comp_def, cAddR, cMulR, oQ]
      refine ⟨["scoop", "move"], rfl, ?_⟩
      rw [if_pos (by simp)]
      refine ⟨_, e1, _, rfl, _, rfl, p, rfl, c1.mono (by decide), ps.1.mono (by decide), (c2.mul ps.2).mono (by decide), _, e1, i0 _ _ ⟨_, rfl, i1 _ _ ⟨_, rfl, -(u.getD i 0 * p), (rT_neg _).symm, c1.mono (by decide), ms.neg.mono (by decide), (c2.mul md).mono (by decide), i, ixN_nat hi, ?_⟩⟩⟩
      rw [setO]
      have hj2 : j < (u.set i (u.getD i 0 + -(u.getD i 0 * p))).length := by simpa using hj
      have e3 := ratsO_n hj2
      rw [getD_setne hij] at e3
      refine ⟨_, e3, _, rfl, d1.mono (by decide), ms.mono (by decide), (d2.mul md).mono (by decide), j, ixN_nat (by simpa using hj), ?_⟩
      rw [setO]
      simpa [oQ, stepW, Deed.d, dQ] using q
    | op ks =>
      obtain ⟨k1, k2, k3, k4⟩ := he
      have kt : ∀ i, ∀ k ∈ ks.take i, k < u.length := fun i k m => k4 k (List.mem_of_mem_take m)
      have ktw : ∀ i, ∀ k ∈ ks.take i, k < ws.length := fun i k m => by rw [hl]; exact kt i k m
      have lt : ∀ i, (ks.take i).length ≤ 20 := fun i => by simp; omega
      have qW : ∀ i, Qb 4030 (sumK u (ks.take i)) ∧ Sm 4000 ((sumK u (ks.take i)).den : Int) := fun i => sumW hu hD sD (kt i) (lt i)
      have qV : ∀ i, Qb 120 (sumK ws (ks.take i)) ∧ Sm 51 ((sumK ws (ks.take i)).den : Int) := fun i => sumV hw qx (ktw i) (lt i)
      have hW := qW ks.length
      have hV := qV ks.length
      rw [List.take_length] at hW hV
      have kw : ∀ k ∈ ks, k < ws.length := fun k m => by rw [hl]; exact k4 k m
      have vp := sumV_pos hw.p kw (fun e => by rw [e] at k1; simp at k1)
      refine cut (fun ρ => ρ = [some (.dat (dQ ws)), some (oQ u), some (.dat (Deed.op ks).d), none, none, none, none]) ?_ fun g hg => ?_
      rotate_left
      · simp [Deed.d]
        exact hg _ rfl
      rintro ρ rfl
      refine cut (fun ρ => ∃ x5 : Option SV, ρ = [some (.dat (dQ ws)), some (oQ (stepW ws u (.op ks))), some (.dat (Deed.op ks).d), some (.dat (rT (sumK u ks))), some (.dat (rT (sumK ws ks))), x5, none]) ?_ fun g hg => ?_
      rotate_left
      · refine if_go true (by simp [Deed.d]) ?_
        rw [if_pos rfl]
        refine cut (fun ρ => ρ = [some (.dat (dQ ws)), some (oQ u), some (.dat (Deed.op ks).d), some (.dat (rT 0)), some (.dat (rT 0)), none, none]) ?_ fun g hg => ?_
        rotate_left
        · simp
          exact hg _ (by simp [rT])
        rintro ρ rfl
        refine cut (fun ρ => ∃ x5 : Option SV, ρ = [some (.dat (dQ ws)), some (oQ u), some (.dat (Deed.op ks).d), some (.dat (rT (sumK u ks))), some (.dat (rT (sumK ws ks))), x5, none]) ?_ fun g hg => ?_
        rotate_left
        · refine for_go ((nI ks).map .int) (fun Q hQ => by simp [Deed.d]; exact ⟨_, rfl, hQ⟩) ?_
          refine for_inv (fun i ρ => ∃ x5 : Option SV, ρ = [some (.dat (dQ ws)), some (oQ u), some (.dat (Deed.op ks).d), some (.dat (rT (sumK u (ks.take i)))), some (.dat (rT (sumK ws (ks.take i)))), x5, none]) ⟨none, by simp [sumK]⟩ ?_ ?_
          · rintro i d ρ hd ⟨x5, rfl⟩
            obtain ⟨k, hk, rfl⟩ := nI_get hd
            have km := List.mem_of_getElem? hk
            have ku := k4 k km
            have e1 := ratsO_n ku
            have e2 := ratsD_n (F := ws) (k := k) (by omega)
            refine ⟨by simp, halt fun g2 hg2 => ?_⟩
            obtain ⟨a1, a2⟩ := qW i
            obtain ⟨v1, v2⟩ := qV i
            obtain ⟨c1, c2⟩ := hu.sz hD sD (getD_memQ ku)
            obtain ⟨g1, _, _, _⟩ := hw.sz qx (getD_memQ (u := ws) (k := k) (by omega))
            have s1 := sumK_snoc u (ks.take i) k
            have s2 := sumK_snoc ws (ks.take i) k
            rw [← take_succ hk] at s1 s2
            simp [dQ, oQ, cAddR]
            refine ⟨_, e1, _, rfl, a1.mono (by decide), c1.mono (by decide), (a2.mul c2).mono (by decide), _, e2, _, rfl, v1.mono (by decide), g1.mono (by decide), (v2.mul g1.d).mono (by decide), ?_⟩
            rw [← s1, ← s2]
            exact hg2 _ ⟨_, rfl⟩
          · rintro ρ ⟨x5, rfl⟩
            have e : ((nI ks).map DD.int).length = ks.length := by simp [nI]
            rw [e, List.take_length]
            exact hg _ ⟨x5, rfl⟩
        rintro ρ ⟨x5, rfl⟩
        refine for_go ((nI ks).map .int) (fun Q hQ => by simp [Deed.d]; exact ⟨_, rfl, hQ⟩) ?_
        obtain ⟨l1, l2⟩ := div_sz hW.1 hV.1 vp hW.2
        obtain ⟨Lv, eLv⟩ : ∃ Lv, Lv = sumK u ks / sumK ws ks := ⟨_, rfl⟩
        have iv := rT_inv vp
        have inv := inv_sz hV.1 vp
        have est : stepW ws u (.op ks) = putK Lv ws u ks := by rw [eLv]; rfl
        rw [est] at hg
        refine for_inv (fun i ρ => ∃ x5 : Option SV, ρ = [some (.dat (dQ ws)), some (oQ (putK Lv ws u (ks.take i))), some (.dat (Deed.op ks).d), some (.dat (rT (sumK u ks))), some (.dat (rT (sumK ws ks))), x5, none]) ⟨x5, rfl⟩ ?_ ?_
        · rintro i d ρ hd ⟨x6, rfl⟩
          obtain ⟨k, hk, rfl⟩ := nI_get hd
          have km := List.mem_of_getElem? hk
          have ku := k4 k km
          have e2 := ratsD_n (F := ws) (k := k) (by omega)
          obtain ⟨g1, _, _, _⟩ := hw.sz qx (getD_memQ (u := ws) (k := k) (by omega))
          have s1 := putK_snoc Lv ws u (ks.take i) k
          rw [← take_succ hk] at s1
          have ln := putK_len Lv ws u (ks.take i)
          refine ⟨by simp, halt fun g2 hg2 => ?_⟩
          have qm := hW.1.mul g1
          have dm := den_mul2 (sumK u ks) (ws.getD k 0) hW.2 g1.d
          have ve : sumK u ks * ws.getD k 0 * (sumK ws ks)⁻¹ = Lv * ws.getD k 0 := by
            rw [eLv, Rat.div_def]
            grind
          simp [dQ, cMulR]
          refine ⟨_, e2, _, rfl, hW.1.mono (by decide), g1.mono (by decide), (hW.2.mul g1.d).mono (by decide), i1 _ _ (i0 _ _ ⟨(sumK ws ks)⁻¹, iv, qm.mono (by decide), inv.mono (by decide), (dm.mul inv.d).mono (by decide), _, rfl, k, ixN_nat (by simpa [ln] using ku), ?_⟩)⟩
          rw [ve, setO, ← s1]
          exact hg2 _ ⟨some (.dat (.int k)), by simp [dQ, oQ]⟩
        · rintro ρ ⟨x6, rfl⟩
          have e : ((nI ks).map DD.int).length = ks.length := by simp [nI]
          rw [e, List.take_length]
          exact hg _ ⟨x6, rfl⟩
      rintro ρ ⟨x5, rfl⟩
      simp [Deed.d]
      refine ⟨["scoop", "move"], rfl, ?_⟩
      rw [if_neg (by simp)]
      exact q
theorem b__law_pv_after {k : Nat} {C : Ctr} (G : FnG P w K mg base CX0 k f fd (["broads", "waters", "deed"] : List Str) (spD K C)) (F : FunD K "_law_pv_after" "_law_pv_after" (defArgs s__law_pv_after) (defBody s__law_pv_after) (defScope s__law_pv_after) [] [] f fd) (hm : mg "_law_pv_after" = some (.ref f)) : Hs P w K mg base "_law_pv_after" (["broads", "waters", "deed"] : List Str) k C := by
  refine hsF G hm F ?_
  intro kV doc pm an cdv ct us hl
  match us, hl with
  | [u0, u1, u2], _ => rfl

theorem g__law_pv_gone (F : FunD K "_law_pv_gone" "_law_pv_gone" (defArgs s__law_pv_gone) (defBody s__law_pv_gone) (defScope s__law_pv_gone) [] [] f fd)  (h__law_pv_over : Hs P w K mg base "_law_pv_over" ["broads", "waters", "deed"] 4 cOver) (h__law_pv_after : Hs P w K mg base "_law_pv_after" ["broads", "waters", "deed"] 4 cAfter) (m_len : mg "len" = none) :
    FnG P w K mg base CX0 (5) f fd (["broads", "state", "deed"] : List Str) (spD K cGone) := by
  have S : FnScope (["broads", "state", "deed", "waters", "halted", "done"] : List Str) (["broads", "state", "deed"] : List Str) (defScope s__law_pv_gone) := ⟨rfl, rfl, rfl, by decide +kernel, rfl, by decide +kernel, by decide +kernel⟩
  have nd : (["broads", "state", "deed", "waters", "halted", "done"] : List Str).Nodup := by decide +kernel
  refine okF (k := 4) [] F S (fun cdv A outer s H E hr => (ss_cons (s_asg (n_v 1 (pv 1) rfl) (t_tup (n := 3) rfl (ts_cons (t_name (i := 3) nd) (ts_cons (t_name (i := 4) nd) (ts_cons (t_name (i := 5) nd) ts_nil)))))
    (ss_cons (s_if (t_val (ev (e_call h__law_pv_over (hr.mono (by omega)) (a_val (ve (n_v 0 (pv 0) rfl)) (a_val (ve (n_v 3 (pv 3) rfl)) (a_val (ve (n_v 2 (pv 2) rfl)) a_nil)))))) (ss_one (s_ret (ve (v_tup (g_cons (ve (n_v 3 (pv 3) rfl)) (g_cons (ve (p_len m_len (os_cons (n_o 5 (pv 5) rfl) os_nil))) (g_cons (e_add (ve (n_v 5 (pv 5) rfl)) (e_lst (g_cons (ve (n_v 2 (pv 2) rfl)) g_nil))) g_nil))))))) ss_nil)
    (ss_one (s_ret (ve (v_tup (g_cons (e_call h__law_pv_after (hr.mono (by omega)) (a_val (ve (n_v 0 (pv 0) rfl)) (a_val (ve (n_v 3 (pv 3) rfl)) (a_val (ve (n_v 2 (pv 2) rfl)) a_nil)))) (g_cons (ve c_non) (g_cons (e_add (ve (n_v 5 (pv 5) rfl)) (e_lst (g_cons (ve (n_v 2 (pv 2) rfl)) g_nil))) g_nil)))))))))) ?_ rfl ?_
  · rintro as Q ⟨x, D, ws, u, o, E, e, rfl, _⟩; rfl
  · rintro as Q ⟨x, D, ws, u, o, E, e, rfl, hl, hn, hD, sD, hu, hw, qx, he, lE, q⟩
    simp [stD, cOver, cAfter]
    refine ⟨x, D, ws, rfl, u, rfl, e, rfl, hl, hn, hD, sD, hu, hw, qx, he, ?_⟩
    cases z : endW ws u e with
    | true =>
      rw [if_pos rfl]
      rw [z, if_pos rfl, end_step z] at q
      exact ⟨by omega, by simpa [stD, Function.comp_def] using q⟩
    | false =>
      rw [if_neg (by simp)]
      rw [z, if_neg (by simp)] at q
      refine ⟨x, D, ws, rfl, u, rfl, e, rfl, hl, hn, hD, sD, hu, hw, qx, he, by omega, ?_⟩
      rw [oQ_data]
      simpa [stD, Function.comp_def] using q
theorem b__law_pv_gone {k : Nat} {C : Ctr} (G : FnG P w K mg base CX0 k f fd (["broads", "state", "deed"] : List Str) (spD K C)) (F : FunD K "_law_pv_gone" "_law_pv_gone" (defArgs s__law_pv_gone) (defBody s__law_pv_gone) (defScope s__law_pv_gone) [] [] f fd) (hm : mg "_law_pv_gone" = some (.ref f)) : Hs P w K mg base "_law_pv_gone" (["broads", "state", "deed"] : List Str) k C := by
  refine hsF G hm F ?_
  intro kV doc pm an cdv ct us hl
  match us, hl with
  | [u0, u1, u2], _ => rfl

theorem g_Script_steps (F : FunD K "steps" "Script.steps" (defArgs s_Script_steps) (defBody s_Script_steps) (defScope s_Script_steps) [] [] f fd)  (h_copied : Hs P w K mg base "copied" ["thing"] 8 (cCopy 8)) (cl_Script : Cls K C_Script) (na_kept_steps : NoAttr K C_Script "kept_steps") :
    FnG P w K mg base CX0 (9) f fd (["self"] : List Str) (spD K (cStepsC C_Script)) := by
  have S : FnScope (["self", "step"] : List Str) (["self"] : List Str) (defScope s_Script_steps) := ⟨rfl, rfl, rfl, by decide +kernel, rfl, by decide +kernel, by decide +kernel⟩
  have nd : (["self", "step"] : List Str).Nodup := by decide +kernel
  refine okF (k := 8) [] F S (fun cdv A outer s H E hr => (ss_one (s_ret (e_lc (own := [("step", 1)]) rfl nd (i_lt (v_fld cl_Script na_kept_steps (n_o 0 (pv 0) rfl))) rfl (fun _ _ _ _ _ => (t_name (i := 1) nd)) (fun _ _ _ _ _ => ifs_nil) (fun _ _ _ _ _ => (e_call h_copied (hr.mono (by omega)) (a_val (ve (n_v 1 (pv 1) rfl)) a_nil))))))) ?_ rfl ?_
  · rintro as Q ⟨vs, ds, n, rfl, _⟩; rfl
  · rintro as Q ⟨vs, ds, n, rfl, hn2, hn, hd, q⟩
    simp [sObj]
    refine ⟨.tup (ds.map Deed.d), rfl, _, rfl, ?_⟩
    refine lc_map cp ?_ ?_ ?_ ?_
    · simp [sizeLine]; omega
    · simp [plainB]
    · intro d hm R hR
      obtain ⟨e, m, rfl⟩ := List.mem_map.mp hm
      simp [wipeR, unwipe, cCopy]
      exact ⟨okC_deed (n := 4) (hd e m) hn2, hR⟩
    · rw [cp, cps_eq] at q
      exact q

theorem g_Bench_len (F : FunD K "__len__" "Bench.__len__" (defArgs s_Bench_len) (defBody s_Bench_len) (defScope s_Bench_len) [] [] f fd)  (m_len : mg "len" = none) (cl_Bench : Cls K C_Bench) (na_done : NoAttr K C_Bench "done") :
    FnG P w K mg base CX0 (1) f fd (["self"] : List Str) (spD K (cBLen C_Bench)) := by
  have S : FnScope (["self"] : List Str) (["self"] : List Str) (defScope s_Bench_len) := ⟨rfl, rfl, rfl, by decide +kernel, rfl, by decide +kernel, by decide +kernel⟩
  have nd : (["self"] : List Str).Nodup := by decide +kernel
  refine okF (k := 0) [] F S (fun cdv A outer s H E hr => (ss_one (s_ret (ve (p_len m_len (os_cons (vo (v_fld cl_Bench na_done (n_o 0 (pv 0) rfl))) os_nil)))))) ?_ rfl ?_
  · rintro as Q ⟨b, rfl, _⟩; rfl
  · rintro as Q ⟨b, rfl, q⟩
    simp [bD]
    simpa [bD] using q

theorem g__law_pv_total (F : FunD K "_law_pv_total" "_law_pv_total" (defArgs s__law_pv_total) (defBody s__law_pv_total) (defScope s__law_pv_total) [] [] f fd)  (h__law_pv_add : Hs P w K mg base "_law_pv_add" ["left", "right"] 3 cAddR) :
    FnG P w K mg base CX0 (4) f fd (["waters"] : List Str) (spD K cTotal) := by
  have S : FnScope (["waters", "total", "water"] : List Str) (["waters"] : List Str) (defScope s__law_pv_total) := ⟨rfl, rfl, rfl, by decide +kernel, rfl, by decide +kernel, by decide +kernel⟩
  have nd : (["waters", "total", "water"] : List Str).Nodup := by decide +kernel
  refine okF (k := 3) [] F S (fun cdv A outer s H E hr => (ss_cons (s_set (i := 1) nd (ve (v_tup (g_cons (ve c_int) (g_cons (ve c_int) g_nil)))))
    (ss_cons (s_for PassesOwn.never rfl (i_lt (n_v 0 (pv 0) rfl)) (t_name (i := 2) nd) (ss_one (s_set (i := 1) nd (ve (ev (e_call h__law_pv_add (hr.mono (by omega)) (a_val (ve (n_v 1 (pv 1) rfl)) (a_val (ve (n_v 2 (pv 2) rfl)) a_nil))))))))
    (ss_one (s_ret (ve (n_v 1 (pv 1) rfl))))))) ?_ rfl ?_
  · rintro as Q ⟨D, u, rfl, _⟩; rfl
  · rintro as Q ⟨D, u, rfl, d0, sD, wz, un, q⟩
    simp [dQ]
    refine for_inv (fun i ρ => ∃ x2 : Option SV, ρ = [some (.dat (.lst (u.map rT))), some (.dat (rT (tot (u.take i)))), x2]) ⟨none, by simp [tot, rT]⟩ ?_ ?_
    · rintro i d ρ hd ⟨x2, rfl⟩
      obtain ⟨v, hv, rfl⟩ : ∃ v, u[i]? = some v ∧ d = rT v := by
        rw [List.getElem?_map] at hd
        cases h : u[i]? with
        | none => rw [h] at hd; cases hd
        | some v => rw [h] at hd; exact ⟨v, rfl, by simpa using hd.symm⟩
      obtain ⟨a1, a2⟩ := take_sz wz d0 sD un i
      obtain ⟨c1, c2⟩ := wz.sz d0 sD (List.mem_of_getElem? hv)
      have lt := (List.getElem?_eq_some_iff.mp hv).1
      have ts := tot_take lt
      rw [List.getD_eq_getElem?_getD, hv] at ts
      refine ⟨by simp, halt fun g2 hg2 => ?_⟩
      simp [cAddR]
      refine ⟨a1.mono (by decide), c1.mono (by decide), (a2.mul c2).mono (by decide), ?_⟩
      exact hg2 _ ⟨_, by rw [ts]; rfl⟩
    · rintro ρ ⟨x2, rfl⟩
      rw [List.length_map, List.take_length]
      simpa [dQ] using q
theorem b__law_pv_total {k : Nat} {C : Ctr} (G : FnG P w K mg base CX0 k f fd (["waters"] : List Str) (spD K C)) (F : FunD K "_law_pv_total" "_law_pv_total" (defArgs s__law_pv_total) (defBody s__law_pv_total) (defScope s__law_pv_total) [] [] f fd) (hm : mg "_law_pv_total" = some (.ref f)) : Hs P w K mg base "_law_pv_total" (["waters"] : List Str) k C := by
  refine hsF G hm F ?_
  intro kV doc pm an cdv ct us hl
  match us, hl with
  | [u0], _ => rfl

theorem g__law_pv_bench_right (F : FunD K "_law_pv_bench_right" "_law_pv_bench_right" (defArgs s__law_pv_bench_right) (defBody s__law_pv_bench_right) (defScope s__law_pv_bench_right) [] [] f fd)  (h__law_pv_heights : Hs P w K mg base "_law_pv_heights" ["broads", "waters"] 3 cHeights) (h__law_pv_right : Hs P w K mg base "_law_pv_right" ["found", "due"] 10 cRight) (h__law_pv_total : Hs P w K mg base "_law_pv_total" ["waters"] 4 cTotal) (m_len : mg "len" = none) (me_Bench_water : Hme_ P w K mg base C_Bench "water" ["self"] 4 (cBWater C_Bench)) (me_Bench_levels : Hme_ P w K mg base C_Bench "levels" ["self"] 4 (cBLevels C_Bench)) (me_Bench_len : Hme_ P w K mg base C_Bench "__len__" ["self"] 1 (cBLen C_Bench)) (pr_Bench_ended : Hp_ P w K mg base C_Bench "ended" 1 (cBEnded C_Bench)) (me_Bench_script : Hme_ P w K mg base C_Bench "script" ["self"] 11 (cBScript C_Bench C_Script)) (pr_Script_steps : Hp_ P w K mg base C_Script "steps" 9 (cStepsC C_Script)) (pr_Script_tanks : Hp_ P w K mg base C_Script "tanks" 1 (cTanks C_Script)) :
    FnG P w K mg base CX0 (12) f fd (["made", "vessels", "broads", "state"] : List Str) (spD K (cBRight C_Bench)) := by
  have S : FnScope (["made", "vessels", "broads", "state", "waters", "halted", "done", "levels", "found", "again"] : List Str) (["made", "vessels", "broads", "state"] : List Str) (defScope s__law_pv_bench_right) := ⟨rfl, rfl, rfl, by decide +kernel, rfl, by decide +kernel, by decide +kernel⟩
  have nd : (["made", "vessels", "broads", "state", "waters", "halted", "done", "levels", "found", "again"] : List Str).Nodup := by decide +kernel
  refine okF (k := 11) [] F S (fun cdv A outer s H E hr => (ss_cons (s_asg (n_v 3 (pv 3) rfl) (t_tup (n := 3) rfl (ts_cons (t_name (i := 4) nd) (ts_cons (t_name (i := 5) nd) (ts_cons (t_name (i := 6) nd) ts_nil)))))
    (ss_cons (s_set (i := 7) nd (ve (ev (e_call h__law_pv_heights (hr.mono (by omega)) (a_val (ve (n_v 2 (pv 2) rfl)) (a_val (ve (n_v 4 (pv 4) rfl)) a_nil))))))
    (ss_cons (s_set (i := 8) nd (e_lst (g_cons (e_prop pr_Bench_ended (hr.mono (by omega)) (n_o 0 (pv 0) rfl)) (g_cons (e_lenO me_Bench_len (hr.mono (by omega)) m_len (n_o 0 (pv 0) rfl)) (g_cons (e_methD0 me_Bench_levels (hr.mono (by omega)) (n_o 0 (pv 0) rfl)) (g_cons (e_methD0 me_Bench_water (hr.mono (by omega)) (n_o 0 (pv 0) rfl)) g_nil))))))
    (ss_cons (s_if (t_not (t_val (ev (e_call h__law_pv_right (hr.mono (by omega)) (a_ref 8 (pv 8) rfl (a_val (ve (ev (e_lst (g_cons (ve (n_v 5 (pv 5) rfl)) (g_cons (ve (p_len m_len (os_cons (n_o 6 (pv 6) rfl) os_nil))) (g_cons (ve (n_v 7 (pv 7) rfl)) (g_cons (e_call h__law_pv_total (hr.mono (by omega)) (a_val (ve (n_v 4 (pv 4) rfl)) a_nil)) g_nil))))))) a_nil)))))) (ss_one (s_ret (ve c_bl))) ss_nil)
    (ss_cons (s_set (i := 9) nd (ve (ev (e_methD0 me_Bench_script (hr.mono (by omega)) (n_o 0 (pv 0) rfl)))))
    (ss_one (s_ret (e_call h__law_pv_right (hr.mono (by omega)) (a_val (e_lst (g_cons (e_prop pr_Script_tanks (hr.mono (by omega)) (n_o 9 (pv 9) rfl)) (g_cons (e_prop pr_Script_steps (hr.mono (by omega)) (n_o 9 (pv 9) rfl)) (g_cons (e_methD0 me_Bench_levels (hr.mono (by omega)) (n_o 0 (pv 0) rfl)) g_nil)))) (a_val (ve (ev (e_lst (g_cons (ve (n_v 1 (pv 1) rfl)) (g_cons (ve (n_v 6 (pv 6) rfl)) (g_cons (ve (n_v 7 (pv 7) rfl)) g_nil)))))) a_nil))))))))))) ?_ rfl ?_
  · rintro as Q ⟨b, rfl, _⟩; rfl
  · rintro as Q ⟨b, rfl, ok, q⟩
    obtain ⟨wd, wl, ul, un, D, d0, sD, wz⟩ := Bn.sz ok
    have n60 := ok.n
    have ecp : cp (tellD b) = .own [.dat b.od, .dat (.int b.E.length), oQ (levs b.ws b.u), .dat (rT (tot b.u))] := by
      have e1 : cp b.od = .dat b.od := by unfold Bn.od; split <;> rfl
      have e2 : cp (dQ (levs b.ws b.u)) = oQ (levs b.ws b.u) := by
        unfold dQ oQ
        rw [cp, cps_eq, List.map_map]
        exact congrArg SV.own (List.map_congr_left fun q _ => cp_rT q)
      simp only [tellD, cp, cps, e1, e2, cp_rT]
    have ecs : cp (tellS b) = .own [.own ((b.vs.map Vat.d).map .dat), cp (.lst (b.E.map Deed.d)), oQ (levs b.ws b.u)] := by
      have e2 : cp (dQ (levs b.ws b.u)) = oQ (levs b.ws b.u) := by
        unfold dQ oQ
        rw [cp, cps_eq, List.map_map]
        exact congrArg SV.own (List.map_congr_left fun q _ => cp_rT q)
      have e3 := cp_vats b.vs
      simp only [tellS, cp, cps, e2] at e3 ⊢
      rw [e3]
    refine cut (fun ρ => ρ = [some (.dat (bD C_Bench b)), some (.dat (.lst (b.vs.map Vat.d))), some (.dat (dQ b.ws)), some (.dat (stD b.u b.od b.E)), some (.dat (dQ b.u)), some (.dat b.od), some (.dat (.lst (b.E.map Deed.d))), none, none, none]) ?_ fun g hg => ?_
    rotate_left
    · simp [stD]
      exact hg _ (by simp [stD])
    rintro ρ rfl
    refine cut (fun ρ => ρ = [some (.dat (bD C_Bench b)), some (.dat (.lst (b.vs.map Vat.d))), some (.dat (dQ b.ws)), some (.dat (stD b.u b.od b.E)), some (.dat (dQ b.u)), some (.dat b.od), some (.dat (.lst (b.E.map Deed.d))), some (.dat (dQ (levs b.ws b.u))), none, none]) ?_ fun g hg => ?_
    rotate_left
    · simp [cHeights]
      exact ⟨b.x, D, b.ws, rfl, b.u, rfl, wl, by omega, d0, sD, wz, wd, ok.q, hg _ (by rw [oQ_data])⟩
    rintro ρ rfl
    refine cut (fun ρ => ρ = [some (.dat (bD C_Bench b)), some (.dat (.lst (b.vs.map Vat.d))), some (.dat (dQ b.ws)), some (.dat (stD b.u b.od b.E)), some (.dat (dQ b.u)), some (.dat b.od), some (.dat (.lst (b.E.map Deed.d))), some (.dat (dQ (levs b.ws b.u))), some (cp (tellD b)), none]) ?_ fun g hg => ?_
    rotate_left
    · simp
      refine ⟨_, rfl, b, rfl, _, rfl, b, rfl, ⟨_, rfl, by omega, by omega⟩, _, rfl, bG_no (by decide), b, rfl, ok, _, rfl, bG_no (by decide), b, rfl, ok, ?_⟩
      exact hg _ (by rw [ecp])
    rintro ρ rfl
    refine cut (fun ρ => ∃ x8 : Option SV, ρ = [some (.dat (bD C_Bench b)), some (.dat (.lst (b.vs.map Vat.d))), some (.dat (dQ b.ws)), some (.dat (stD b.u b.od b.E)), some (.dat (dQ b.u)), some (.dat b.od), some (.dat (.lst (b.E.map Deed.d))), some (.dat (dQ (levs b.ws b.u))), x8, none]) ?_ fun g hg => ?_
    rotate_left
    · refine if_cut (fun _ => False) (fun ρ => ∃ x8 : Option SV, ρ = [some (.dat (bD C_Bench b)), some (.dat (.lst (b.vs.map Vat.d))), some (.dat (dQ b.ws)), some (.dat (stD b.u b.od b.E)), some (.dat (dQ b.u)), some (.dat b.od), some (.dat (.lst (b.E.map Deed.d))), some (.dat (dQ (levs b.ws b.u))), x8, none]) (fun P N hP hN => ?_) ?_ ?_
      · simp [cTotal]
        refine ⟨D, b.u, rfl, d0, sD, wz, un, ?_⟩
        refine right_rt (d := tellD b) (tell_rt ok) (by decide) (by decide) (by decide) ?_
        simp
        exact hN _ ⟨_, rfl⟩
      · rintro ρ hF
        exact hF.elim
      · rintro ρ ⟨x8, rfl⟩
        exact hg _ ⟨x8, rfl⟩
    rintro ρ ⟨x8, rfl⟩
    refine cut (fun ρ => ρ = [some (.dat (bD C_Bench b)), some (.dat (.lst (b.vs.map Vat.d))), some (.dat (dQ b.ws)), some (.dat (stD b.u b.od b.E)), some (.dat (dQ b.u)), some (.dat b.od), some (.dat (.lst (b.E.map Deed.d))), some (.dat (dQ (levs b.ws b.u))), x8, some (.dat (sObj C_Script b.vs b.E))]) ?_ fun g hg => ?_
    rotate_left
    · simp
      refine ⟨_, rfl, bG_no (by decide), b, rfl, ok, ?_⟩
      dsimp only
      rw [sT_data]
      exact hg _ rfl
    rintro ρ rfl
    simp
    refine ⟨_, rfl, b.vs, b.E, rfl, _, rfl, b.vs, b.E, b.vs.length, rfl, ok.v.n.2, by omega, ok.e, _, rfl, bG_no (by decide), b, rfl, ok, ?_⟩
    have fin := right_rt (d := tellS b) (tell_rs ok) (by decide) (by decide) (by decide) (Q := fun r as' => Q r [.dat (bD C_Bench b), .dat (.lst (b.vs.map Vat.d)), .dat (dQ b.ws), .dat (stD b.u b.od b.E)]) q
    rw [ecs] at fin
    exact fin
theorem b__law_pv_bench_right {k : Nat} {C : Ctr} (G : FnG P w K mg base CX0 k f fd (["made", "vessels", "broads", "state"] : List Str) (spD K C)) (F : FunD K "_law_pv_bench_right" "_law_pv_bench_right" (defArgs s__law_pv_bench_right) (defBody s__law_pv_bench_right) (defScope s__law_pv_bench_right) [] [] f fd) (hm : mg "_law_pv_bench_right" = some (.ref f)) : Hs P w K mg base "_law_pv_bench_right" (["made", "vessels", "broads", "state"] : List Str) k C := by
  refine hsF G hm F ?_
  intro kV doc pm an cdv ct us hl
  match us, hl with
  | [u0, u1, u2, u3], _ => rfl

theorem g__law_pv_checked (F : FunD K "_law_pv_checked" "_law_pv_checked" (defArgs s__law_pv_checked) (defBody s__law_pv_checked) (defScope s__law_pv_checked) [] [] f fd)  (h__law_pv_any_shape : Hs P w K mg base "_law_pv_any_shape" ["sack"] 7 cAny) (h__law_pv_any_wide : Hs P w K mg base "_law_pv_any_wide" ["sack"] 4 cWidthA) (h__law_pv_begun : Hs P w K mg base "_law_pv_begun" ["vessels"] 1 cBegun) (h__law_pv_broads : Hs P w K mg base "_law_pv_broads" ["vessels", "wide"] 1 cWidths) (h__law_pv_bench : Hs P w K mg base "_law_pv_bench" ["sack", "vessels", "wide"] 9 (cBench C_Bench)) (h__law_pv_bench_right : Hs P w K mg base "_law_pv_bench_right" ["made", "vessels", "broads", "state"] 12 (cBRight C_Bench)) (h__law_pv_deed : Hs P w K mg base "_law_pv_deed" ["sack", "many", "most", "kinds"] 4 cDeed) (h__law_pv_gone : Hs P w K mg base "_law_pv_gone" ["broads", "state", "deed"] 5 cGone) (h__law_pv_does : Hs P w K mg base "_law_pv_does" ["sack", "made", "deed"] 10 (cDoes C_Bench)) (m_range : mg "range" = none) (m_len : mg "len" = none) (m_repr : mg "repr" = none) (kl : LimK K) :
    FnG P w K mg base CX0 (13) f fd (["sack"] : List Str) (spD K cChecked) := by
  have S : FnScope (["sack", "shape", "most", "vessels", "wide", "broads", "state", "made", "later", "deed", "turn"] : List Str) (["sack"] : List Str) (defScope s__law_pv_checked) := ⟨rfl, rfl, rfl, by decide +kernel, rfl, by decide +kernel, by decide +kernel⟩
  have nd : (["sack", "shape", "most", "vessels", "wide", "broads", "state", "made", "later", "deed", "turn"] : List Str).Nodup := by decide +kernel
  refine okF (k := 12) [0] F S (fun cdv A outer s H E hr => (ss_cons (s_asg (ev (e_call h__law_pv_any_shape (hr.mono (by omega)) (a_ref 0 (pv 0) rfl a_nil))) (t_tup (n := 2) rfl (ts_cons (t_name (i := 1) nd) (ts_cons (t_name (i := 2) nd) ts_nil))))
    (ss_cons (s_asg (v_tup (g_cons (ve (v_ix (n_o 1 (pv 1) rfl) (vo c_int))) (g_cons (e_call h__law_pv_any_wide (hr.mono (by omega)) (a_ref 0 (pv 0) rfl a_nil)) g_nil))) (t_tup (n := 2) rfl (ts_cons (t_name (i := 3) nd) (ts_cons (t_name (i := 4) nd) ts_nil))))
    (ss_cons (s_par (i := 5) (j := 6) rfl nd (g_cons (ve (ev (e_call h__law_pv_broads (hr.mono (by omega)) (a_val (ve (n_v 3 (pv 3) rfl)) (a_val (ve (n_v 4 (pv 4) rfl)) a_nil))))) (g_cons (ve (ev (e_call h__law_pv_begun (hr.mono (by omega)) (a_val (ve (n_v 3 (pv 3) rfl)) a_nil)))) g_nil)))
    (ss_cons (s_set (i := 7) nd (e_call h__law_pv_bench (hr.mono (by omega)) (a_ref 0 (pv 0) rfl (a_val (ve (n_v 3 (pv 3) rfl)) (a_val (ve (n_v 4 (pv 4) rfl)) a_nil)))))
    (ss_cons (s_if (t_not (t_val (ev (e_frz (e_call h__law_pv_bench_right (hr.mono (by omega)) (a_val (ve (n_v 7 (pv 7) rfl)) (a_val (ve (n_v 3 (pv 3) rfl)) (a_val (ve (n_v 5 (pv 5) rfl)) (a_val (ve (n_v 6 (pv 6) rfl)) a_nil))))))))) (ss_one (s_ret (ve c_bl))) ss_nil)
    (ss_cons (s_lcS (i := 8) (own := [("turn", 10)]) rfl nd (i_rg1 m_range (os_cons (vo c_int) os_nil)) rfl (fun _ _ _ _ _ => (t_name (i := 10) nd)) (fun _ _ _ _ _ => ifs_nil) (fun _ _ _ _ _ => (e_call h__law_pv_deed (hr.mono (by omega)) (a_ref 0 (pv 0) rfl (a_val (ve (p_len m_len (os_cons (n_o 3 (pv 3) rfl) os_nil))) (a_val (ve (n_v 2 (pv 2) rfl)) (a_val (ve (ev (e_lst (g_cons (ve c_str) (g_cons (ve c_str) (g_cons (ve c_str) (g_cons (ve c_str) (g_cons (ve c_str) g_nil)))))))) a_nil)))))))
    (ss_cons (s_for PassesOwn.never rfl (i_lt (ev (e_sl (vo (ev (e_add (ve (v_ix (n_o 1 (pv 1) rfl) (vo c_int))) (ve (n_v 8 (pv 8) rfl))))) s_none (s_some (vo c_int))))) (t_name (i := 9) nd) (ss_one (s_if (q_isN (vo (v_ix (n_o 6 (pv 6) rfl) (vo c_int))) (vo c_non)) (ss_cons (s_set (i := 6) nd (ve (ev (e_call h__law_pv_gone (hr.mono (by omega)) (a_val (ve (n_v 5 (pv 5) rfl)) (a_val (ve (n_v 6 (pv 6) rfl)) (a_val (ve (n_v 9 (pv 9) rfl)) a_nil)))))))
    (ss_cons (s_if (q_neS (vo (p_repr kl hr m_repr (os_cons (vo (ev (e_call h__law_pv_does (hr.mono (by omega)) (a_ref 0 (pv 0) rfl (a_ref 7 (pv 7) rfl (a_val (ve (n_v 9 (pv 9) rfl)) a_nil)))))) os_nil))) (vo (p_repr kl hr m_repr (os_cons (vo (p_notN (vo (v_ix (n_o 6 (pv 6) rfl) (vo c_int))) (vo c_non))) os_nil)))) (ss_one (s_ret (ve c_bl))) ss_nil)
    (ss_one (s_if (t_w (w_and (q_lt (vo (p_len m_len (os_cons (vo (v_ix (n_o 6 (pv 6) rfl) (vo c_int))) os_nil))) (vo c_int)) (w_and1 (t_not (t_val (ev (e_frz (e_call h__law_pv_bench_right (hr.mono (by omega)) (a_val (ve (n_v 7 (pv 7) rfl)) (a_val (ve (n_v 3 (pv 3) rfl)) (a_val (ve (n_v 5 (pv 5) rfl)) (a_val (ve (n_v 6 (pv 6) rfl)) a_nil)))))))))))) (ss_one (s_ret (ve c_bl))) ss_nil)))) ss_nil)))
    (ss_one (s_ret (e_frz (e_call h__law_pv_bench_right (hr.mono (by omega)) (a_val (ve (n_v 7 (pv 7) rfl)) (a_val (ve (n_v 3 (pv 3) rfl)) (a_val (ve (n_v 5 (pv 5) rfl)) (a_val (ve (n_v 6 (pv 6) rfl)) a_nil)))))))))))))))) ?_ rfl ?_
  · rintro as Q ⟨s, rfl, _⟩; rfl
  · rintro as Q ⟨s, rfl, hs, q⟩
    refine cut (fun ρ => ∃ (s1 : SV) (c1 : Nat) (vs : List Vat) (ds0 : List Deed) (mo : Int), Sk c1 s1 ∧ c1 ≤ 200000 ∧ VatsOk vs ∧ ds0.length ≤ 60 ∧ (∀ e ∈ ds0, e.ok vs.length) ∧ 1 ≤ mo ∧ mo ≤ 1000 ∧ ρ = [some s1, some (.dat (dShape vs ds0)), some (.dat (.int mo)), none, none, none, none, none, none, none, none]) ?_ fun g hg => ?_
    rotate_left
    · simp [cAny]
      exact ⟨0, hs, by omega, fun vs ds b s1 c1 hv ld od b1 b2 k1 e1 => hg _ ⟨s1, c1, vs, ds, b, k1, by omega, hv, ld, od, b1, b2, rfl⟩⟩
    rintro ρ ⟨s1, c1, vs, ds0, mo, k1, e1, hv, ld, od0, mo1, mo2, rfl⟩
    have vl := hv.n
    refine cut (fun ρ => ∃ (s1 : SV) (c1 : Nat) (x : Rat), Sk c1 s1 ∧ c1 ≤ 200016 ∧ 0 < x ∧ Qb 51 x ∧ ρ = [some s1, some (.dat (dShape vs ds0)), some (.dat (.int mo)), some (.dat (.lst (vs.map Vat.d))), some (.dat (rT x)), none, none, none, none, none, none]) ?_ fun g hg => ?_
    rotate_left
    · simp [dShape, cWidthA]
      exact ⟨c1, k1, by omega, fun x s2 c2 x0 qx k2 e2 => hg _ ⟨s2, c2, x, k2, by omega, x0, qx, by simp [dShape]⟩⟩
    rintro ρ ⟨s1, c1, x, k1, e1, x0, qx, rfl⟩
    refine cut (fun ρ => ρ = [some s1, some (.dat (dShape vs ds0)), some (.dat (.int mo)), some (.dat (.lst (vs.map Vat.d))), some (.dat (rT x)), some (.dat (dQ (vs.map (wid x)))), some (.dat (stD (amts vs) .non [])), none, none, none, none]) ?_ fun g hg => ?_
    rotate_left
    · simp [cWidths, cBegun]
      exact ⟨vs, rfl, by omega, vs, rfl, by omega, hg _ (by rw [oQ_data])⟩
    rintro ρ rfl
    refine cut (fun ρ => ∃ (s1 : SV) (c1 : Nat) (t : SV), Sk c1 s1 ∧ c1 ≤ 200017 ∧ BT C_Bench ⟨vs, x, [], false⟩ t ∧ ρ = [some s1, some (.dat (dShape vs ds0)), some (.dat (.int mo)), some (.dat (.lst (vs.map Vat.d))), some (.dat (rT x)), some (.dat (dQ (vs.map (wid x)))), some (.dat (stD (amts vs) .non [])), some t, none, none, none]) ?_ fun g hg => ?_
    rotate_left
    · simp [cBench]
      refine ⟨c1, vs, rfl, k1, by omega, hv, x0, fun t s2 c2 ht k2 e2 => ?_⟩
      exact hg _ ⟨s2, c2, t, k2, by omega, ht, rfl⟩
    rintro ρ ⟨s1, c1, t, k1, e1, ht, rfl⟩
    obtain ⟨b0, eb0⟩ : ∃ b0 : Bn, b0 = ⟨vs, x, [], false⟩ := ⟨_, rfl⟩
    rw [← eb0] at ht
    have ok0 : b0.ok := by rw [eb0]; exact ⟨hv, x0, qx, by simp, by simp⟩
    have v0 : b0.vs = vs := by rw [eb0]
    have x00 : b0.x = x := by rw [eb0]
    have E0 : b0.E = [] := by rw [eb0]
    have st0 : stD (amts vs) .non [] = stD b0.u b0.od b0.E := by rw [eb0]; rfl
    rw [st0]
    refine cut (fun ρ => ρ = [some s1, some (.dat (dShape vs ds0)), some (.dat (.int mo)), some (.dat (.lst (vs.map Vat.d))), some (.dat (rT x)), some (.dat (dQ (vs.map (wid x)))), some (.dat (stD b0.u b0.od b0.E)), some t, none, none, none]) ?_ fun g hg => ?_
    rotate_left
    · refine if_go false (fun Q hQ => ?_) ?_
      · simp [cBRight]
        rw [ht.data]
        refine ⟨b0, rfl, by rw [v0], ?_, rfl, ok0, by simpa using hQ⟩
        rw [Bn.ws, v0, x00]
      · rw [if_neg (by simp)]
        exact hg _ rfl
    rintro ρ rfl
    refine cut (fun ρ => ∃ (s1 : SV) (c1 : Nat) (lt : List Deed), Sk c1 s1 ∧ c1 ≤ 210000 ∧ lt.length ≤ 6 ∧ (∀ e ∈ lt, e.ok vs.length) ∧ ρ = [some s1, some (.dat (dShape vs ds0)), some (.dat (.int mo)), some (.dat (.lst (vs.map Vat.d))), some (.dat (rT x)), some (.dat (dQ (vs.map (wid x)))), some (.dat (stD b0.u b0.od b0.E)), some t, some (.dat (.lst (lt.map Deed.d))), none, none]) ?_ fun g hg => ?_
    rotate_left
    · simp
      refine lc_inv (fun i acc ρ => ∃ (s' : SV) (c' : Nat) (ds : List Deed), Sk c' s' ∧ c' ≤ 200017 + 100 * i ∧ ds.length = i ∧ (∀ e ∈ ds, e.ok vs.length) ∧ acc = ds.map (fun e => SV.dat e.d) ∧ ρ = [some s', some (.dat (dShape vs ds0)), some (.dat (.int mo)), some (.dat (.lst (vs.map Vat.d))), some (.dat (rT x)), some (.dat (dQ (vs.map (wid x)))), some (.dat (stD b0.u b0.od b0.E)), some t, none, none, none]) ⟨s1, c1, [], k1, by omega, rfl, by simp, rfl, rfl⟩ ?_ ?_
      · rintro i d acc ρ hd ⟨s3, c3, ds, k3, e3, ld, od, rfl, rfl⟩
        obtain ⟨rfl, hi⟩ := rg_get hd
        refine ⟨by simp [plainB], ?_⟩
        simp [wipeR, unwipe, cDeed]
        refine ⟨c3, vs.length, rfl, ["pour", "move", "scoop", "open", "open"], rfl, k3, by omega, by omega, by omega, mo1, mo2, by simp, by simp, fun z hz => by simp at hz; simp [words]; rcases hz with h | h | h | h <;> simp [h], fun e s4 c4 oe k4 e4 => ?_⟩
        have lm : (ds.map fun e => SV.dat e.d).length = ds.length := by simp
        refine ⟨by omega, s4, c4, k4, by omega, ds ++ [e], by simp [ld], ?_, by simp, rfl⟩
        intro a ha
        rcases List.mem_append.mp ha with ha | ha
        · exact od a ha
        · rw [List.mem_singleton.mp ha]; exact oe
      · rintro acc ρ ⟨s3, c3, ds, k3, e3, ld, od, rfl, rfl⟩
        have lr : (rgD 0 1 6).length = 6 := by simp [rgD]
        rw [lr] at e3 ld
        simp
        exact hg _ ⟨s3, c3, ds, k3, by omega, by omega, od, by simp [Function.comp_def]⟩
    rintro ρ ⟨s1, c1, lt, k1, e1, ll, od1, rfl⟩
    obtain ⟨ds, eds⟩ : ∃ ds, ds = (ds0 ++ lt).take 60 := ⟨_, rfl⟩
    have ln : ds.length ≤ 60 := by rw [eds]; simp; omega
    have dok : ∀ e ∈ ds, e.ok vs.length := fun e m => by
      rw [eds] at m
      rcases List.mem_append.mp (List.mem_of_mem_take m) with m | m
      · exact od0 e m
      · exact od1 e m
    have sl : cutD ((ds0 ++ lt).map Deed.d) none (some 60) = ds.map Deed.d := by
      rw [show (60 : Int) = ((60 : Nat) : Int) from rfl, cut_take, eds, List.map_take]
    refine cut (fun ρ => ∃ i, ∃ (s1 : SV) (c1 : Nat) (b : Bn) (t : SV) (x9 x10 : Option SV), Sk c1 s1 ∧ c1 ≤ 210000 + 3 * i ∧ BT C_Bench b t ∧ b.ok ∧ b.vs = vs ∧ b.x = x ∧ b.E.length ≤ i ∧ ρ = [some s1, some (.dat (dShape vs ds0)), some (.dat (.int mo)), some (.dat (.lst (vs.map Vat.d))), some (.dat (rT x)), some (.dat (dQ (vs.map (wid x)))), some (.dat (stD b.u b.od b.E)), some t, some (.dat (.lst (lt.map Deed.d))), x9, x10]) ?_ fun g hg => ?_
    rotate_left
    · refine for_go (ds.map Deed.d) (fun Q hQ => ?_) ?_
      · simp [dShape, addT]
        refine ⟨by omega, ?_⟩
        have e9 : (ds0.map (SV.data ∘ SV.dat ∘ Deed.d)) ++ (lt.map (SV.data ∘ SV.dat ∘ Deed.d)) = (ds0 ++ lt).map Deed.d := by simp [Function.comp_def]
        rw [e9, sl]
        exact hQ
      refine for_inv (fun i ρ => ∃ (s1 : SV) (c1 : Nat) (b : Bn) (t : SV) (x9 x10 : Option SV), Sk c1 s1 ∧ c1 ≤ 210000 + 3 * i ∧ BT C_Bench b t ∧ b.ok ∧ b.vs = vs ∧ b.x = x ∧ b.E.length ≤ i ∧ ρ = [some s1, some (.dat (dShape vs ds0)), some (.dat (.int mo)), some (.dat (.lst (vs.map Vat.d))), some (.dat (rT x)), some (.dat (dQ (vs.map (wid x)))), some (.dat (stD b.u b.od b.E)), some t, some (.dat (.lst (lt.map Deed.d))), x9, x10]) ⟨s1, c1, b0, t, none, none, k1, by omega, ht, ok0, v0, x00, by rw [E0]; simp, rfl⟩ ?_ ?_
      · rintro i d ρ hd ⟨s1, c1, b, t, x9, x10, k1, e1, ht, ok, hbv, hbx, lE, rfl⟩
        obtain ⟨e, he, rfl⟩ : ∃ e, ds[i]? = some e ∧ d = e.d := by
          rw [List.getElem?_map] at hd
          cases h : ds[i]? with
          | none => rw [h] at hd; cases hd
          | some v => rw [h] at hd; exact ⟨v, rfl, by simpa using hd.symm⟩
        have hi := (List.getElem?_eq_some_iff.mp he).1
        have eok : e.ok b.vs.length := by rw [hbv]; exact dok e (List.mem_of_getElem? he)
        have hbw : b.ws = vs.map (wid x) := by rw [Bn.ws, hbv, hbx]
        obtain ⟨wd, wl, ul, un, D, d0, sD, wz⟩ := Bn.sz ok
        refine ⟨by simp, ?_⟩
        simp only [List.set_cons_succ, List.set_cons_zero]
        refine if_cut (fun ρ => b.o = false ∧ ρ = [some s1, some (.dat (dShape vs ds0)), some (.dat (.int mo)), some (.dat (.lst (vs.map Vat.d))), some (.dat (rT x)), some (.dat (dQ (vs.map (wid x)))), some (.dat (stD b.u b.od b.E)), some t, some (.dat (.lst (lt.map Deed.d))), some (.dat e.d), x10]) (fun ρ => ρ = [some s1, some (.dat (dShape vs ds0)), some (.dat (.int mo)), some (.dat (.lst (vs.map Vat.d))), some (.dat (rT x)), some (.dat (dQ (vs.map (wid x)))), some (.dat (stD b.u b.od b.E)), some t, some (.dat (.lst (lt.map Deed.d))), some (.dat e.d), x10]) (fun P N hP hN => ?_) ?_ ?_
        · cases z : b.o with
          | true =>
            have od := led_od b z
            simp [stD]
            refine ⟨by rw [od]; rfl, ?_⟩
            rw [od]
            exact hN _ (by rw [od]; simp [stD])
          | false =>
            have od := od_none z
            simp [stD]
            refine ⟨by rw [od]; rfl, ?_⟩
            rw [od]
            exact hP _ ⟨z, by rw [od]; simp [stD]⟩
        · rintro ρ ⟨ho, rfl⟩
          obtain ⟨b2, hb2, ok2, v2, x2, w2, E2, u2, od2, o2⟩ := b.next ok eok (by omega)
          refine cut (fun ρ => ρ = [some s1, some (.dat (dShape vs ds0)), some (.dat (.int mo)), some (.dat (.lst (vs.map Vat.d))), some (.dat (rT x)), some (.dat (dQ (vs.map (wid x)))), some (.dat (stD b2.u b2.od b2.E)), some t, some (.dat (.lst (lt.map Deed.d))), some (.dat e.d), x10]) ?_ fun g2 hg2 => ?_
          rotate_left
          · simp [cGone]
            refine ⟨x, D, vs.map (wid x), rfl, b.u, b.od, b.E, rfl, e, rfl, ?_⟩
            rw [← hbw]
            refine ⟨wl, un, d0, sD, wz, by rw [← hbx]; exact wd, qx, by rw [ul]; exact eok, by omega, ?_⟩
            rw [← u2, ← od2, ← E2]
            exact hg2 _ (by rw [hbw])
          rintro ρ rfl
          refine cut (fun ρ => ∃ (s2 : SV) (c2 : Nat) (t2 : SV), Sk c2 s2 ∧ c2 ≤ 210000 + 3 * (i + 1) ∧ BT C_Bench b2 t2 ∧ ρ = [some s2, some (.dat (dShape vs ds0)), some (.dat (.int mo)), some (.dat (.lst (vs.map Vat.d))), some (.dat (rT x)), some (.dat (dQ (vs.map (wid x)))), some (.dat (stD b2.u b2.od b2.E)), some t2, some (.dat (.lst (lt.map Deed.d))), some (.dat e.d), x10]) ?_ fun g2 hg2 => ?_
          rotate_left
          · refine if_cut (fun _ => False) (fun ρ => ∃ (s2 : SV) (c2 : Nat) (t2 : SV), Sk c2 s2 ∧ c2 ≤ 210000 + 3 * (i + 1) ∧ BT C_Bench b2 t2 ∧ ρ = [some s2, some (.dat (dShape vs ds0)), some (.dat (.int mo)), some (.dat (.lst (vs.map Vat.d))), some (.dat (rT x)), some (.dat (dQ (vs.map (wid x)))), some (.dat (stD b2.u b2.od b2.E)), some t2, some (.dat (.lst (lt.map Deed.d))), some (.dat e.d), x10]) (fun P N hP hN => ?_) (fun ρ z => z.elim) ?_
            · simp [cDoes]
              refine ⟨c1, b, e, rfl, k1, by omega, ht, ok, ho, eok, by omega, fun t2 s2 c2 h2 k2 e2 => ?_⟩
              rw [← hb2] at h2
              have fin := hN _ ⟨s2, c2, t2, k2, by omega, h2, rfl⟩
              have eb : (!isN b2.od) = endW b.ws b.u e := by
                rw [od2]
                cases endW b.ws b.u e <;> rfl
              have tl : tld b2.od = true := by
                rw [od2]
                split <;> rfl
              refine ⟨okR_bl _, ?_⟩
              simp only [stD, ixT, atI_cons1]
              refine ⟨_, rfl, tl, okR_bl _, .inl ⟨by rw [eb], fin⟩⟩
            · rintro ρ ⟨s2, c2, t2, k2, e2, ht2, rfl⟩
              exact hg2 _ ⟨s2, c2, t2, k2, e2, ht2, rfl⟩
          rintro ρ ⟨s2, c2, t2, k2, e2, ht2, rfl⟩
          refine if_cut (fun _ => False) (fun ρ => ρ = [some s2, some (.dat (dShape vs ds0)), some (.dat (.int mo)), some (.dat (.lst (vs.map Vat.d))), some (.dat (rT x)), some (.dat (dQ (vs.map (wid x)))), some (.dat (stD b2.u b2.od b2.E)), some t2, some (.dat (.lst (lt.map Deed.d))), some (.dat e.d), x10]) (fun P N hP hN => ?_) ?_ ?_
          · have fin := hN _ rfl
            simp [stD]
            rw [ht2.data]
            rcases Nat.lt_or_ge b2.E.length 24 with y | y
            · exact .inr ⟨by omega, b2, by rw [v2, hbv, w2, hbw]; rfl, ok2, by simpa [stD] using fin⟩
            · exact .inl ⟨by omega, by simpa [stD] using fin⟩
          · rintro ρ z
            exact z.elim
          · rintro ρ rfl
            exact ⟨s2, c2, b2, t2, _, _, k2, e2, ht2, ok2, by rw [v2, hbv], by rw [x2, hbx], by rw [E2]; simp; omega, rfl⟩
        · rintro ρ rfl
          exact ⟨s1, c1, b, t, _, _, k1, by omega, ht, ok, hbv, hbx, by omega, rfl⟩
      · rintro ρ ⟨s1, c1, b, t, x9, x10, k1, e1, ht, ok, hbv, hbx, lE, rfl⟩
        exact hg _ ⟨_, s1, c1, b, t, _, _, k1, e1, ht, ok, hbv, hbx, lE, rfl⟩
    rintro ρ ⟨i, s1, c1, b, t, x9, x10, k1, e1, ht, ok, hbv, hbx, lE, rfl⟩
    simp [cBRight]
    rw [ht.data]
    refine ⟨b, rfl, by rw [hbv], ?_, rfl, ok, by simpa using q _⟩
    rw [Bn.ws, hbv, hbx]
theorem b__law_pv_checked {k : Nat} {C : Ctr} (G : FnG P w K mg base CX0 k f fd (["sack"] : List Str) (spD K C)) (F : FunD K "_law_pv_checked" "_law_pv_checked" (defArgs s__law_pv_checked) (defBody s__law_pv_checked) (defScope s__law_pv_checked) [] [] f fd) (hm : mg "_law_pv_checked" = some (.ref f)) : Hs P w K mg base "_law_pv_checked" (["sack"] : List Str) k C := by
  refine hsF G hm F ?_
  intro kV doc pm an cdv ct us hl
  match us, hl with
  | [u0], _ => rfl

theorem g_law (F : FunD K "law" "law" (defArgs s_law) (defBody s_law) (defScope s_law) [] [] f fd)  (h__law_pv_checked : Hs P w K mg base "_law_pv_checked" ["sack"] 13 cChecked) (h__law_pv_sack : Hs P w K mg base "_law_pv_sack" ["script", "rank"] 1 cSack) (m_range : mg "range" = none) (m_max : mg "max" = none) (m_min : mg "min" = none) (m_len : mg "len" = none) :
    FnG P w K mg base CX0 (14) f fd (["script"] : List Str) (spD K cLawS) := by
  have S : FnScope (["script", "rank"] : List Str) (["script"] : List Str) (defScope s_law) := ⟨rfl, rfl, rfl, by decide +kernel, rfl, by decide +kernel, by decide +kernel⟩
  have nd : (["script", "rank"] : List Str).Nodup := by decide +kernel
  refine okF (k := 13) [] F S (fun cdv A outer s H E hr => (ss_cons (s_for PassesOwn.never rfl (i_rg1 m_range (os_cons (vo (p_max rfl m_max (os_cons (vo c_int) (os_cons (vo (p_min rfl m_min (os_cons (vo c_int) (os_cons (vo (p_len m_len (os_cons (n_o 0 (pv 0) rfl) os_nil))) os_nil)))) os_nil)))) os_nil)) (t_name (i := 1) nd) (ss_one (s_if (t_not (t_val (ev (e_call h__law_pv_checked (hr.mono (by omega)) (a_val (e_call h__law_pv_sack (hr.mono (by omega)) (a_val (ve (n_v 0 (pv 0) rfl)) (a_val (ve (n_v 1 (pv 1) rfl)) a_nil))) a_nil))))) (ss_one (s_ret (ve c_bl))) ss_nil)))
    (ss_one (s_ret (ve c_bl))))) ?_ rfl ?_
  · rintro as Q ⟨ns, b, rfl, _⟩; rfl
  · rintro as Q ⟨ns, b, rfl, hn, hl, q⟩
    have en : (if (1 : Int) < (if (ns.length : Int) < 3 then (ns.length : Int) else 3) then (if (ns.length : Int) < 3 then (ns.length : Int) else 3) else 1) = ((max 1 (min 3 ns.length) : Nat) : Int) := by split <;> split <;> omega
    have walk : ∀ (D : DEnds), (∀ x1, D.nx [some (.dat (scr b ns)), x1]) → forB (gSet [] 1)
        (fIf (fNot (fTst (eV (fCall cChecked (aVal (fCall cSack (aVal (vE (fVar 0)) (aVal (vE (fVar 1)) aNil))) aNil))))) (fRet (vE (fC (DD.bl false)))) fNext)
        (rgD 0 1 (max 1 (min 3 ns.length))) D [some (.dat (scr b ns)), none] := by
      intro D hD
      refine for_inv (fun i ρ => ∃ x1 : Option SV, ρ = [some (.dat (scr b ns)), x1]) ⟨none, rfl⟩ ?_ ?_
      · rintro i d ρ hd ⟨x1, rfl⟩
        obtain ⟨rfl, hi⟩ := rg_get hd
        simp [cSack]
        refine ⟨ns, i, (by cases b <;> simp), hn, by omega, fun s hs => ?_⟩
        simp [cChecked]
        exact hs
      · rintro ρ ⟨x1, rfl⟩
        exact hD x1
    cases b <;> simp [en] <;> refine ⟨by omega, walk _ fun x1 => ?_⟩ <;> simpa using q
theorem b_law {k : Nat} {C : Ctr} (G : FnG P w K mg base CX0 k f fd (["script"] : List Str) (spD K C)) (F : FunD K "law" "law" (defArgs s_law) (defBody s_law) (defScope s_law) [] [] f fd) (hm : mg "law" = some (.ref f)) : Hs P w K mg base "law" (["script"] : List Str) k C := by
  refine hsF G hm F ?_
  intro kV doc pm an cdv ct us hl
  match us, hl with
  | [u0], _ => rfl

end
def d_Bench_init : He.DefD := ⟨("Bench", some "__init__"), "__init__", "Bench.__init__", defArgs s_Bench_init, defBody s_Bench_init, defScope s_Bench_init, [], []⟩
def d_Bench_call : He.DefD := ⟨("Bench", some "__call__"), "__call__", "Bench.__call__", defArgs s_Bench_call, defBody s_Bench_call, defScope s_Bench_call, [], []⟩
def d_Bench_levels : He.DefD := ⟨("Bench", some "levels"), "levels", "Bench.levels", defArgs s_Bench_levels, defBody s_Bench_levels, defScope s_Bench_levels, [], []⟩
def d_Bench_water : He.DefD := ⟨("Bench", some "water"), "water", "Bench.water", defArgs s_Bench_water, defBody s_Bench_water, defScope s_Bench_water, [], []⟩
def d_Bench_script : He.DefD := ⟨("Bench", some "script"), "script", "Bench.script", defArgs s_Bench_script, defBody s_Bench_script, defScope s_Bench_script, [], []⟩
def d_Bench_len : He.DefD := ⟨("Bench", some "__len__"), "__len__", "Bench.__len__", defArgs s_Bench_len, defBody s_Bench_len, defScope s_Bench_len, [], []⟩
def d_Script_init : He.DefD := ⟨("Script", some "__init__"), "__init__", "Script.__init__", defArgs s_Script_init, defBody s_Script_init, defScope s_Script_init, [], []⟩
def d_Bench_ended : He.DefD := ⟨("Bench", some "ended"), "ended", "Bench.ended", defArgs s_Bench_ended, defBody s_Bench_ended, defScope s_Bench_ended, [], []⟩
def d_Script_tanks : He.DefD := ⟨("Script", some "tanks"), "tanks", "Script.tanks", defArgs s_Script_tanks, defBody s_Script_tanks, defScope s_Script_tanks, [], []⟩
def d_Script_steps : He.DefD := ⟨("Script", some "steps"), "steps", "Script.steps", defArgs s_Script_steps, defBody s_Script_steps, defScope s_Script_steps, [], []⟩
def d__wall : He.DefD := ⟨("_wall", none), "_wall", "_wall", defArgs s__wall, defBody s__wall, defScope s__wall, [], []⟩
def d_copied : He.DefD := ⟨("copied", none), "copied", "copied", defArgs s_copied, defBody s_copied, defScope s_copied, [], []⟩
def d_divisor : He.DefD := ⟨("divisor", none), "divisor", "divisor", defArgs s_divisor, defBody s_divisor, defScope s_divisor, [], []⟩
def d_reduced : He.DefD := ⟨("reduced", none), "reduced", "reduced", defArgs s_reduced, defBody s_reduced, defScope s_reduced, [], []⟩
def d_added : He.DefD := ⟨("added", none), "added", "added", defArgs s_added, defBody s_added, defScope s_added, [], []⟩
def d_multiplied : He.DefD := ⟨("multiplied", none), "multiplied", "multiplied", defArgs s_multiplied, defBody s_multiplied, defScope s_multiplied, [], []⟩
def d_compared : He.DefD := ⟨("compared", none), "compared", "compared", defArgs s_compared, defBody s_compared, defScope s_compared, [], []⟩
def d_is_fraction : He.DefD := ⟨("is_fraction", none), "is_fraction", "is_fraction", defArgs s_is_fraction, defBody s_is_fraction, defScope s_is_fraction, [], []⟩
def d_is_width : He.DefD := ⟨("is_width", none), "is_width", "is_width", defArgs s_is_width, defBody s_is_width, defScope s_is_width, [], []⟩
def d_widths_at : He.DefD := ⟨("widths_at", none), "widths_at", "widths_at", defArgs s_widths_at, defBody s_widths_at, defScope s_widths_at, [], []⟩
def d_levels_at : He.DefD := ⟨("levels_at", none), "levels_at", "levels_at", defArgs s_levels_at, defBody s_levels_at, defScope s_levels_at, [], []⟩
def d_valve_at : He.DefD := ⟨("valve_at", none), "valve_at", "valve_at", defArgs s_valve_at, defBody s_valve_at, defScope s_valve_at, [], []⟩
def d_step_at : He.DefD := ⟨("step_at", none), "step_at", "step_at", defArgs s_step_at, defBody s_step_at, defScope s_step_at, [], []⟩
def d_ends_at : He.DefD := ⟨("ends_at", none), "ends_at", "ends_at", defArgs s_ends_at, defBody s_ends_at, defScope s_ends_at, [], []⟩
def d_check_tanks : He.DefD := ⟨("check_tanks", none), "check_tanks", "check_tanks", defArgs s_check_tanks, defBody s_check_tanks, defScope s_check_tanks, [], []⟩
def d_is_step : He.DefD := ⟨("is_step", none), "is_step", "is_step", defArgs s_is_step, defBody s_is_step, defScope s_is_step, [], []⟩
def d_tanks_of : He.DefD := ⟨("tanks_of", none), "tanks_of", "tanks_of", defArgs s_tanks_of, defBody s_tanks_of, defScope s_tanks_of, [], []⟩
def d_check_step : He.DefD := ⟨("check_step", none), "check_step", "check_step", defArgs s_check_step, defBody s_check_step, defScope s_check_step, [], []⟩
def d__law_pv_sack : He.DefD := ⟨("_law_pv_sack", none), "_law_pv_sack", "_law_pv_sack", defArgs s__law_pv_sack, defBody s__law_pv_sack, defScope s__law_pv_sack, [], []⟩
def d__law_pv_coin : He.DefD := ⟨("_law_pv_coin", none), "_law_pv_coin", "_law_pv_coin", defArgs s__law_pv_coin, defBody s__law_pv_coin, defScope s__law_pv_coin, [], []⟩
def d__law_pv_shared : He.DefD := ⟨("_law_pv_shared", none), "_law_pv_shared", "_law_pv_shared", defArgs s__law_pv_shared, defBody s__law_pv_shared, defScope s__law_pv_shared, [], []⟩
def d__law_pv_ratio : He.DefD := ⟨("_law_pv_ratio", none), "_law_pv_ratio", "_law_pv_ratio", defArgs s__law_pv_ratio, defBody s__law_pv_ratio, defScope s__law_pv_ratio, [], []⟩
def d__law_pv_add : He.DefD := ⟨("_law_pv_add", none), "_law_pv_add", "_law_pv_add", defArgs s__law_pv_add, defBody s__law_pv_add, defScope s__law_pv_add, [], []⟩
def d__law_pv_mul : He.DefD := ⟨("_law_pv_mul", none), "_law_pv_mul", "_law_pv_mul", defArgs s__law_pv_mul, defBody s__law_pv_mul, defScope s__law_pv_mul, [], []⟩
def d__law_pv_side : He.DefD := ⟨("_law_pv_side", none), "_law_pv_side", "_law_pv_side", defArgs s__law_pv_side, defBody s__law_pv_side, defScope s__law_pv_side, [], []⟩
def d__law_pv_copied : He.DefD := ⟨("_law_pv_copied", none), "_law_pv_copied", "_law_pv_copied", defArgs s__law_pv_copied, defBody s__law_pv_copied, defScope s__law_pv_copied, [], []⟩
def d__law_pv_lists : He.DefD := ⟨("_law_pv_lists", none), "_law_pv_lists", "_law_pv_lists", defArgs s__law_pv_lists, defBody s__law_pv_lists, defScope s__law_pv_lists, [], []⟩
def d__law_pv_marked : He.DefD := ⟨("_law_pv_marked", none), "_law_pv_marked", "_law_pv_marked", defArgs s__law_pv_marked, defBody s__law_pv_marked, defScope s__law_pv_marked, [], []⟩
def d__law_pv_right : He.DefD := ⟨("_law_pv_right", none), "_law_pv_right", "_law_pv_right", defArgs s__law_pv_right, defBody s__law_pv_right, defScope s__law_pv_right, [], []⟩
def d__law_pv_part : He.DefD := ⟨("_law_pv_part", none), "_law_pv_part", "_law_pv_part", defArgs s__law_pv_part, defBody s__law_pv_part, defScope s__law_pv_part, [], []⟩
def d__law_pv_vessels : He.DefD := ⟨("_law_pv_vessels", none), "_law_pv_vessels", "_law_pv_vessels", defArgs s__law_pv_vessels, defBody s__law_pv_vessels, defScope s__law_pv_vessels, [], []⟩
def d__law_pv_two : He.DefD := ⟨("_law_pv_two", none), "_law_pv_two", "_law_pv_two", defArgs s__law_pv_two, defBody s__law_pv_two, defScope s__law_pv_two, [], []⟩
def d__law_pv_deed : He.DefD := ⟨("_law_pv_deed", none), "_law_pv_deed", "_law_pv_deed", defArgs s__law_pv_deed, defBody s__law_pv_deed, defScope s__law_pv_deed, [], []⟩
def d__law_pv_shape : He.DefD := ⟨("_law_pv_shape", none), "_law_pv_shape", "_law_pv_shape", defArgs s__law_pv_shape, defBody s__law_pv_shape, defScope s__law_pv_shape, [], []⟩
def d__law_pv_long : He.DefD := ⟨("_law_pv_long", none), "_law_pv_long", "_law_pv_long", defArgs s__law_pv_long, defBody s__law_pv_long, defScope s__law_pv_long, [], []⟩
def d__law_pv_wide : He.DefD := ⟨("_law_pv_wide", none), "_law_pv_wide", "_law_pv_wide", defArgs s__law_pv_wide, defBody s__law_pv_wide, defScope s__law_pv_wide, [], []⟩
def d__law_pv_heights : He.DefD := ⟨("_law_pv_heights", none), "_law_pv_heights", "_law_pv_heights", defArgs s__law_pv_heights, defBody s__law_pv_heights, defScope s__law_pv_heights, [], []⟩
def d__law_pv_after : He.DefD := ⟨("_law_pv_after", none), "_law_pv_after", "_law_pv_after", defArgs s__law_pv_after, defBody s__law_pv_after, defScope s__law_pv_after, [], []⟩
def d__law_pv_over : He.DefD := ⟨("_law_pv_over", none), "_law_pv_over", "_law_pv_over", defArgs s__law_pv_over, defBody s__law_pv_over, defScope s__law_pv_over, [], []⟩
def d__law_pv_broads : He.DefD := ⟨("_law_pv_broads", none), "_law_pv_broads", "_law_pv_broads", defArgs s__law_pv_broads, defBody s__law_pv_broads, defScope s__law_pv_broads, [], []⟩
def d__law_pv_bench : He.DefD := ⟨("_law_pv_bench", none), "_law_pv_bench", "_law_pv_bench", defArgs s__law_pv_bench, defBody s__law_pv_bench, defScope s__law_pv_bench, [], []⟩
def d__law_pv_does : He.DefD := ⟨("_law_pv_does", none), "_law_pv_does", "_law_pv_does", defArgs s__law_pv_does, defBody s__law_pv_does, defScope s__law_pv_does, [], []⟩
def d__law_pv_bench_right : He.DefD := ⟨("_law_pv_bench_right", none), "_law_pv_bench_right", "_law_pv_bench_right", defArgs s__law_pv_bench_right, defBody s__law_pv_bench_right, defScope s__law_pv_bench_right, [], []⟩
def d__law_pv_begun : He.DefD := ⟨("_law_pv_begun", none), "_law_pv_begun", "_law_pv_begun", defArgs s__law_pv_begun, defBody s__law_pv_begun, defScope s__law_pv_begun, [], []⟩
def d__law_pv_gone : He.DefD := ⟨("_law_pv_gone", none), "_law_pv_gone", "_law_pv_gone", defArgs s__law_pv_gone, defBody s__law_pv_gone, defScope s__law_pv_gone, [], []⟩
def d__law_pv_total : He.DefD := ⟨("_law_pv_total", none), "_law_pv_total", "_law_pv_total", defArgs s__law_pv_total, defBody s__law_pv_total, defScope s__law_pv_total, [], []⟩
def d__law_pv_capped : He.DefD := ⟨("_law_pv_capped", none), "_law_pv_capped", "_law_pv_capped", defArgs s__law_pv_capped, defBody s__law_pv_capped, defScope s__law_pv_capped, [], []⟩
def d__law_pv_any_shape : He.DefD := ⟨("_law_pv_any_shape", none), "_law_pv_any_shape", "_law_pv_any_shape", defArgs s__law_pv_any_shape, defBody s__law_pv_any_shape, defScope s__law_pv_any_shape, [], []⟩
def d__law_pv_any_wide : He.DefD := ⟨("_law_pv_any_wide", none), "_law_pv_any_wide", "_law_pv_any_wide", defArgs s__law_pv_any_wide, defBody s__law_pv_any_wide, defScope s__law_pv_any_wide, [], []⟩
def d__law_pv_checked : He.DefD := ⟨("_law_pv_checked", none), "_law_pv_checked", "_law_pv_checked", defArgs s__law_pv_checked, defBody s__law_pv_checked, defScope s__law_pv_checked, [], []⟩
def d_law : He.DefD := ⟨("law", none), "law", "law", defArgs s_law, defBody s_law, defScope s_law, [], []⟩
def fn1 : List He.DefD := [d__wall, d_copied, d_divisor, d_reduced, d_added, d_multiplied, d_compared, d_is_fraction, d_is_width, d_widths_at, d_levels_at, d_valve_at, d_step_at, d_ends_at, d_check_tanks, d_is_step, d_tanks_of, d_check_step, d__law_pv_sack, d__law_pv_coin, d__law_pv_shared, d__law_pv_ratio, d__law_pv_add, d__law_pv_mul, d__law_pv_side, d__law_pv_copied, d__law_pv_lists, d__law_pv_marked, d__law_pv_right]
def fn2 : List He.DefD := [d__law_pv_part, d__law_pv_vessels, d__law_pv_two, d__law_pv_deed, d__law_pv_shape, d__law_pv_long, d__law_pv_wide, d__law_pv_heights, d__law_pv_after, d__law_pv_over, d__law_pv_broads, d__law_pv_bench, d__law_pv_does, d__law_pv_bench_right, d__law_pv_begun, d__law_pv_gone, d__law_pv_total, d__law_pv_capped, d__law_pv_any_shape, d__law_pv_any_wide, d__law_pv_checked, d_law, d_Bench_init, d_Bench_call, d_Bench_levels, d_Bench_water, d_Bench_script, d_Bench_len, d_Script_init]
def fn : List He.DefD := fn1 ++ fn2
def tbs : List He.Tab := [(fun K => He.ga K "SIZES", tSIZES.map (·.1))]
def tbi : List (Str × List (Str × Int)) := [("SIZES", tSIZES)]
def xfi : List (PySem.W.Frag → Bool) := []
def prs : List DL.PrD := [⟨"Bench", "ended", d_Bench_ended⟩, ⟨"Script", "tanks", d_Script_tanks⟩, ⟨"Script", "steps", d_Script_steps⟩]
def fa1 : List He.Fa := [.glo "_wall", .glo "copied", .glo "divisor", .glo "reduced", .glo "added", .glo "multiplied", .glo "compared", .glo "is_fraction", .glo "is_width", .glo "widths_at", .glo "levels_at", .glo "valve_at", .glo "step_at", .glo "ends_at", .glo "check_tanks", .glo "is_step", .glo "tanks_of", .glo "check_step", .glo "_law_pv_sack", .glo "_law_pv_coin", .glo "_law_pv_shared", .glo "_law_pv_ratio", .glo "_law_pv_add", .glo "_law_pv_mul", .glo "_law_pv_side", .glo "_law_pv_copied", .glo "_law_pv_lists", .glo "_law_pv_marked", .glo "_law_pv_right", .glo "_law_pv_part", .glo "_law_pv_vessels", .glo "_law_pv_two", .glo "_law_pv_deed", .glo "_law_pv_shape", .glo "_law_pv_long", .glo "_law_pv_wide", .glo "_law_pv_heights", .glo "_law_pv_after", .glo "_law_pv_over", .glo "_law_pv_broads", .glo "_law_pv_bench", .glo "_law_pv_does", .glo "_law_pv_bench_right", .glo "_law_pv_begun", .glo "_law_pv_gone", .glo "_law_pv_total", .glo "_law_pv_capped"]
def fa2 : List He.Fa := [.glo "_law_pv_any_shape", .glo "_law_pv_any_wide", .glo "_law_pv_checked", .glo "law", .glo "TankError", .glo "InvalidTank", .glo "InvalidStep", .glo "UnknownTank", .glo "UnknownStep", .glo "InvalidFraction", .glo "Script", .glo "Bench", .glo "SIZES", .free "TypeError", .free "ValueError", .free "abs", .free "int", .free "isinstance", .free "len", .free "list", .free "max", .free "min", .free "property", .free "range", .free "repr", .free "set", .free "sorted", .free "tuple", .free "zip", .cls "Bench", .mkr "Bench", .noat "Bench" "first_tanks", .noat "Bench" "told_width", .noat "Bench" "all_widths", .noat "Bench" "waters", .noat "Bench" "done", .noat "Bench" "over_at", .meth "Bench" "__call__", .meth "Bench" "levels", .meth "Bench" "water", .meth "Bench" "script", .meth "Bench" "__len__", .cls "Script", .mkr "Script", .noat "Script" "kept_tanks", .noat "Script" "kept_steps"]
def fa : List He.Fa := fa1 ++ fa2
abbrev R : PySem.W.OpenRow := PySem.W.OpenLaw.row PySem.Challenge.rw_valvelevels_k46_benches_led
abbrev hk : PySem.W.Hook := DL.hookX 6 fa fn tbs prs tbi xfi
def ob (s : PySem.W.SharedT) : DL.AlX := DL.obsXG 6 fa fn tbs prs tbi xfi (HandSHeadRun.getT s)
theorem ob_eq (s : PySem.W.SharedT) : ob s = hk.obs s.abs := DL.obsXG_eq (HandSHeadRun.getT_eq s)
def loose : List PySem.Str := (["_wall", "copied", "TankError", "InvalidTank", "InvalidStep", "UnknownTank", "UnknownStep", "InvalidFraction", "divisor", "reduced", "added", "multiplied", "compared", "is_fraction", "is_width", "widths_at", "levels_at", "valve_at", "step_at", "ends_at", "SIZES", "check_tanks", "is_step", "tanks_of", "check_step", "Script", "Bench", "_law_pv_sack", "_law_pv_coin", "_law_pv_shared"] : List PySem.Str) ++ (["_law_pv_ratio", "_law_pv_add", "_law_pv_mul", "_law_pv_side", "_law_pv_copied", "_law_pv_lists", "_law_pv_marked", "_law_pv_right", "_law_pv_part", "_law_pv_vessels", "_law_pv_two", "_law_pv_deed", "_law_pv_shape", "_law_pv_long", "_law_pv_wide", "_law_pv_heights", "_law_pv_after", "_law_pv_over", "_law_pv_broads", "_law_pv_bench", "_law_pv_does", "_law_pv_bench_right", "_law_pv_begun", "_law_pv_gone", "_law_pv_total", "_law_pv_capped", "_law_pv_any_shape", "_law_pv_any_wide", "_law_pv_checked"] : List PySem.Str)
def setB (b : Bool) (w : World) : World := { w with params := { w.params with followText := fun r => if r = "special-get-raises" then b else w.params.followText r } }
open HandSHeadRun PySem.W in
noncomputable abbrev ranB (b : Bool) (w : World) (os : OsState) := endF (stepQ (denQ tabQ) R.prog (setB b w)) 6000 R.prog (setB b w) os
theorem obs_two {fa1 fa2 : List He.Fa} {fn1 fn2 : List He.DefD} {ts : List He.Tab} {ps : List DL.PrD} {tb : List (Str × List (Str × Int))} {xf : List (PySem.W.Frag → Bool)} {K : PySem.W.Frag} {w : World} (h2 : DL.obsX fa1 fn1 ts ps tb xf K = DL.valX fn1 ts ps w) (h3 : DL.obsX fa2 fn2 [] [] [] [] K = DL.valX fn2 [] [] w) :
    DL.obsX (fa1 ++ fa2) (fn1 ++ fn2) ts ps tb xf K = DL.valX (fn1 ++ fn2) ts ps w := by
  unfold DL.obsX DL.valX at *
  obtain ⟨h4, h5⟩ := Prod.mk.inj h2
  obtain ⟨h6, h7⟩ := Prod.mk.inj h5
  obtain ⟨k4, k5⟩ := Prod.mk.inj h3
  unfold He.obsT He.valT at *
  obtain ⟨h8, h9⟩ := Prod.mk.inj h4
  obtain ⟨k8, k9⟩ := Prod.mk.inj k4
  unfold He.obsD He.valD at *
  obtain ⟨i1, i2⟩ := Prod.mk.inj h8
  obtain ⟨j1, j2⟩ := Prod.mk.inj k8
  rw [Bool.and_eq_true] at i1 j1
  refine Prod.ext (Prod.ext (Prod.ext ?_ ?_) h9) (Prod.ext h6 h7)
  · simp only [List.all_append, i1.1, i1.2, j1.1, j1.2, Bool.and_self]
  · simp only [List.map_append, i2, j2]
theorem join3 {S A B : Type} {x : Option S} {l : S → A} {se : S → B} {a : A} {b : B} {g : S → Addr → Option Obj} {n : Nat} {fa1 fa2 : List He.Fa} {fn1 fn2 : List He.DefD} {ts : List He.Tab} {ps : List DL.PrD} {tb : List (Str × List (Str × Int))} {xf : List (PySem.W.Frag → Bool)} {w : World}
    (h1 : x.map (fun s => (l s, se s)) = some (a, b)) (h2 : x.map (fun s => DL.obsXG n fa1 fn1 ts ps tb xf (g s)) = some (DL.valX fn1 ts ps w)) (h3 : x.map (fun s => DL.obsXG n fa2 fn2 [] [] [] [] (g s)) = some (DL.valX fn2 [] [] w)) :
    x.map (fun s => (l s, se s, DL.obsXG n (fa1 ++ fa2) (fn1 ++ fn2) ts ps tb xf (g s))) = some (a, b, DL.valX (fn1 ++ fn2) ts ps w) := by
  cases x with
  | none => cases h1
  | some s =>
    simp only [Option.map_some, Option.some.injEq] at h1 h2 h3 ⊢
    obtain ⟨e1, e2⟩ := Prod.mk.inj h1
    have e3 := obs_two (fa1 := fa1) (fa2 := fa2) (fn1 := fn1) (fn2 := fn2) (K := He.frG (g s) (He.asD (g s) n ++ [cStatics])) h2 h3
    exact Prod.ext e1 (Prod.ext e2 e3)
open HandSHeadRun PySem.W in
theorem run_t0 (w : World) (os : OsState) : (ranB true w os).map (fun s => (looksF R.prog (boot_heap (setB true w).params) s.abs, seenQ (PySem.W.view R.prog [66]) loose (importedModules R.prog.main.body) (fun s => xlAt (PySem.W.view R.prog [66]) [] s && recOk R.toRowW.records s) s.abs)) = some (true, openGood (PySem.W.view R.prog [66]) loose) := by kernel_rfl
open HandSHeadRun PySem.W in
theorem run_t1 (w : World) (os : OsState) : (ranB true w os).map (fun s => DL.obsXG 6 fa1 fn1 tbs prs tbi xfi (getT s)) = some (DL.valX fn1 tbs prs (setB true w)) := by kernel_rfl
open HandSHeadRun PySem.W in
theorem run_t2 (w : World) (os : OsState) : (ranB true w os).map (fun s => DL.obsXG 6 fa2 fn2 [] [] [] [] (getT s)) = some (DL.valX fn2 [] [] (setB true w)) := by kernel_rfl
theorem run_t (w : World) : HandSHeadRun.RunEq R (PySem.W.view R.prog [66]) hk ob 6000 loose (setB true w) := fun os => join3 (run_t0 w os) (run_t1 w os) (run_t2 w os)
open HandSHeadRun PySem.W in
theorem run_f0 (w : World) (os : OsState) : (ranB false w os).map (fun s => (looksF R.prog (boot_heap (setB false w).params) s.abs, seenQ (PySem.W.view R.prog [66]) loose (importedModules R.prog.main.body) (fun s => xlAt (PySem.W.view R.prog [66]) [] s && recOk R.toRowW.records s) s.abs)) = some (true, openGood (PySem.W.view R.prog [66]) loose) := by kernel_rfl
open HandSHeadRun PySem.W in
theorem run_f1 (w : World) (os : OsState) : (ranB false w os).map (fun s => DL.obsXG 6 fa1 fn1 tbs prs tbi xfi (getT s)) = some (DL.valX fn1 tbs prs (setB false w)) := by kernel_rfl
open HandSHeadRun PySem.W in
theorem run_f2 (w : World) (os : OsState) : (ranB false w os).map (fun s => DL.obsXG 6 fa2 fn2 [] [] [] [] (getT s)) = some (DL.valX fn2 [] [] (setB false w)) := by kernel_rfl
theorem run_f (w : World) : HandSHeadRun.RunEq R (PySem.W.view R.prog [66]) hk ob 6000 loose (setB false w) := fun os => join3 (run_f0 w os) (run_f1 w os) (run_f2 w os)
theorem run (w : World) : HandSHeadRun.RunEq R (PySem.W.view R.prog [66]) hk ob 6000 loose w := by
  have e : w = setB (w.params.followText "special-get-raises") w := by
    have h : (fun r => if r = "special-get-raises" then w.params.followText "special-get-raises" else w.params.followText r) = w.params.followText := by
      funext r
      split
      · next h => rw [h]
      · rfl
    unfold setB
    rw [h]
  rw [e]
  cases w.params.followText "special-get-raises" with
  | true => exact run_t w
  | false => exact run_f w
theorem facts {P : Program} {w : World} {K : PySem.W.Frag} {h : Heap} {mg : Str → Option Value} {f : Addr} (X : K.In h) (G : h.Ns mainGlobals mg) (hfa : mg ("law" : Str) = some (.ref f)) (cx : DL.SaysX fa fn tbs prs tbi xfi w K) :
    ∃ fd : FuncData, (∀ (s : Shared) (v : Value), BindsTo s fd ⟨[v], []⟩ [("script", v)]) ∧ ∀ base : Heap, K.In base → base.Ns mainGlobals mg → FnG P w K mg base CX0 14 f fd (["script"] : List Str) (spD K cLawS) := by
  have c : He.SaysD fa fn K := cx.t.d
  have kl : LimK K := cx.lim
  obtain ⟨fd_divisor, F_divisor⟩ := c.def_ 2 (d := d_divisor) rfl
  obtain ⟨fd_reduced, F_reduced⟩ := c.def_ 3 (d := d_reduced) rfl
  obtain ⟨fd_added, F_added⟩ := c.def_ 4 (d := d_added) rfl
  obtain ⟨fd_multiplied, F_multiplied⟩ := c.def_ 5 (d := d_multiplied) rfl
  obtain ⟨fd_compared, F_compared⟩ := c.def_ 6 (d := d_compared) rfl
  obtain ⟨fd_is_fraction, F_is_fraction⟩ := c.def_ 7 (d := d_is_fraction) rfl
  obtain ⟨fd_is_width, F_is_width⟩ := c.def_ 8 (d := d_is_width) rfl
  obtain ⟨fd_widths_at, F_widths_at⟩ := c.def_ 9 (d := d_widths_at) rfl
  obtain ⟨fd_levels_at, F_levels_at⟩ := c.def_ 10 (d := d_levels_at) rfl
  obtain ⟨fd_valve_at, F_valve_at⟩ := c.def_ 11 (d := d_valve_at) rfl
  obtain ⟨fd_step_at, F_step_at⟩ := c.def_ 12 (d := d_step_at) rfl
  obtain ⟨fd_ends_at, F_ends_at⟩ := c.def_ 13 (d := d_ends_at) rfl
  obtain ⟨fd_copied, F_copied⟩ := c.def_ 1 (d := d_copied) rfl
  obtain ⟨fd__law_pv_copied, F__law_pv_copied⟩ := c.def_ 25 (d := d__law_pv_copied) rfl
  obtain ⟨fd_check_tanks, F_check_tanks⟩ := c.def_ 14 (d := d_check_tanks) rfl
  obtain ⟨fd_is_step, F_is_step⟩ := c.def_ 15 (d := d_is_step) rfl
  obtain ⟨fd_tanks_of, F_tanks_of⟩ := c.def_ 16 (d := d_tanks_of) rfl
  obtain ⟨fd_check_step, F_check_step⟩ := c.def_ 17 (d := d_check_step) rfl
  obtain ⟨fd_Bench_init, F_Bench_init⟩ := c.def_ 51 (d := d_Bench_init) rfl
  obtain ⟨fd_Bench_call, F_Bench_call⟩ := c.def_ 52 (d := d_Bench_call) rfl
  obtain ⟨fd_Bench_levels, F_Bench_levels⟩ := c.def_ 53 (d := d_Bench_levels) rfl
  obtain ⟨fd_Bench_water, F_Bench_water⟩ := c.def_ 54 (d := d_Bench_water) rfl
  obtain ⟨P_Bench_ended, fd_Bench_ended, F_Bench_ended⟩ := cx.pr 0 rfl
  obtain ⟨fd__law_pv_sack, F__law_pv_sack⟩ := c.def_ 18 (d := d__law_pv_sack) rfl
  obtain ⟨fd__law_pv_coin, F__law_pv_coin⟩ := c.def_ 19 (d := d__law_pv_coin) rfl
  obtain ⟨fd__law_pv_shared, F__law_pv_shared⟩ := c.def_ 20 (d := d__law_pv_shared) rfl
  obtain ⟨fd__law_pv_ratio, F__law_pv_ratio⟩ := c.def_ 21 (d := d__law_pv_ratio) rfl
  obtain ⟨fd__law_pv_add, F__law_pv_add⟩ := c.def_ 22 (d := d__law_pv_add) rfl
  obtain ⟨fd__law_pv_mul, F__law_pv_mul⟩ := c.def_ 23 (d := d__law_pv_mul) rfl
  obtain ⟨fd__law_pv_side, F__law_pv_side⟩ := c.def_ 24 (d := d__law_pv_side) rfl
  obtain ⟨fd__law_pv_part, F__law_pv_part⟩ := c.def_ 29 (d := d__law_pv_part) rfl
  obtain ⟨fd__law_pv_two, F__law_pv_two⟩ := c.def_ 31 (d := d__law_pv_two) rfl
  obtain ⟨fd__law_pv_vessels, F__law_pv_vessels⟩ := c.def_ 30 (d := d__law_pv_vessels) rfl
  obtain ⟨fd__law_pv_deed, F__law_pv_deed⟩ := c.def_ 32 (d := d__law_pv_deed) rfl
  obtain ⟨fd__law_pv_shape, F__law_pv_shape⟩ := c.def_ 33 (d := d__law_pv_shape) rfl
  obtain ⟨fd__law_pv_long, F__law_pv_long⟩ := c.def_ 34 (d := d__law_pv_long) rfl
  obtain ⟨fd__law_pv_wide, F__law_pv_wide⟩ := c.def_ 35 (d := d__law_pv_wide) rfl
  obtain ⟨fd__law_pv_any_wide, F__law_pv_any_wide⟩ := c.def_ 48 (d := d__law_pv_any_wide) rfl
  obtain ⟨fd__law_pv_broads, F__law_pv_broads⟩ := c.def_ 39 (d := d__law_pv_broads) rfl
  obtain ⟨fd__law_pv_bench, F__law_pv_bench⟩ := c.def_ 40 (d := d__law_pv_bench) rfl
  obtain ⟨fd__law_pv_does, F__law_pv_does⟩ := c.def_ 41 (d := d__law_pv_does) rfl
  obtain ⟨fd__law_pv_capped, F__law_pv_capped⟩ := c.def_ 46 (d := d__law_pv_capped) rfl
  obtain ⟨fd__law_pv_any_shape, F__law_pv_any_shape⟩ := c.def_ 47 (d := d__law_pv_any_shape) rfl
  obtain ⟨fd__law_pv_lists, F__law_pv_lists⟩ := c.def_ 26 (d := d__law_pv_lists) rfl
  obtain ⟨fd__law_pv_marked, F__law_pv_marked⟩ := c.def_ 27 (d := d__law_pv_marked) rfl
  obtain ⟨fd__law_pv_right, F__law_pv_right⟩ := c.def_ 28 (d := d__law_pv_right) rfl
  obtain ⟨fd_Script_init, F_Script_init⟩ := c.def_ 57 (d := d_Script_init) rfl
  obtain ⟨P_Script_tanks, fd_Script_tanks, F_Script_tanks⟩ := cx.pr 1 rfl
  obtain ⟨fd_Bench_script, F_Bench_script⟩ := c.def_ 55 (d := d_Bench_script) rfl
  obtain ⟨fd__law_pv_heights, F__law_pv_heights⟩ := c.def_ 36 (d := d__law_pv_heights) rfl
  obtain ⟨fd__law_pv_over, F__law_pv_over⟩ := c.def_ 38 (d := d__law_pv_over) rfl
  obtain ⟨fd__law_pv_begun, F__law_pv_begun⟩ := c.def_ 43 (d := d__law_pv_begun) rfl
  obtain ⟨fd__law_pv_after, F__law_pv_after⟩ := c.def_ 37 (d := d__law_pv_after) rfl
  obtain ⟨fd__law_pv_gone, F__law_pv_gone⟩ := c.def_ 44 (d := d__law_pv_gone) rfl
  obtain ⟨P_Script_steps, fd_Script_steps, F_Script_steps⟩ := cx.pr 2 rfl
  obtain ⟨fd_Bench_len, F_Bench_len⟩ := c.def_ 56 (d := d_Bench_len) rfl
  obtain ⟨fd__law_pv_total, F__law_pv_total⟩ := c.def_ 45 (d := d__law_pv_total) rfl
  obtain ⟨fd__law_pv_bench_right, F__law_pv_bench_right⟩ := c.def_ 42 (d := d__law_pv_bench_right) rfl
  obtain ⟨fd__law_pv_checked, F__law_pv_checked⟩ := c.def_ 49 (d := d__law_pv_checked) rfl
  obtain ⟨fd_law, F_law⟩ := c.def_ 50 (d := d_law) rfl
  have cl_Bench := He.cls_ok (c.fact 76 (f := .cls "Bench") rfl)
  have mr_Bench := He.mkr_ok (c.fact 77 (f := .mkr "Bench") rfl)
  have na_first_tanks := He.noat_ok (c.fact 78 (f := .noat "Bench" "first_tanks") rfl)
  have na_told_width := He.noat_ok (c.fact 79 (f := .noat "Bench" "told_width") rfl)
  have na_all_widths := He.noat_ok (c.fact 80 (f := .noat "Bench" "all_widths") rfl)
  have na_waters := He.noat_ok (c.fact 81 (f := .noat "Bench" "waters") rfl)
  have na_done := He.noat_ok (c.fact 82 (f := .noat "Bench" "done") rfl)
  have na_over_at := He.noat_ok (c.fact 83 (f := .noat "Bench" "over_at") rfl)
  have mt_Bench___call__ := He.meth_ok (c.fact 84 (f := .meth "Bench" "__call__") rfl)
  have mt_Bench_levels := He.meth_ok (c.fact 85 (f := .meth "Bench" "levels") rfl)
  have mt_Bench_water := He.meth_ok (c.fact 86 (f := .meth "Bench" "water") rfl)
  have mt_Bench_script := He.meth_ok (c.fact 87 (f := .meth "Bench" "script") rfl)
  have mt_Bench___len__ := He.meth_ok (c.fact 88 (f := .meth "Bench" "__len__") rfl)
  have cl_Script := He.cls_ok (c.fact 89 (f := .cls "Script") rfl)
  have mr_Script := He.mkr_ok (c.fact 90 (f := .mkr "Script") rfl)
  have na_kept_tanks := He.noat_ok (c.fact 91 (f := .noat "Script" "kept_tanks") rfl)
  have na_kept_steps := He.noat_ok (c.fact 92 (f := .noat "Script" "kept_steps") rfl)
  have g_SIZES := He.glo_ok X G (c.fact 59 (f := .glo "SIZES") rfl)
  have t_SIZES := DL.tabB_ok (cx.tb_ 0 rfl) (cx.t.tab 0 rfl)
  have n_Bench := He.glo_ok X G (c.fact 58 (f := .glo "Bench") rfl)
  have n_Script := He.glo_ok X G (c.fact 57 (f := .glo "Script") rfl)
  have n_divisor := He.glo_ok X G (c.fact 2 (f := .glo "divisor") rfl)
  have n_reduced := He.glo_ok X G (c.fact 3 (f := .glo "reduced") rfl)
  have n_added := He.glo_ok X G (c.fact 4 (f := .glo "added") rfl)
  have n_multiplied := He.glo_ok X G (c.fact 5 (f := .glo "multiplied") rfl)
  have n_compared := He.glo_ok X G (c.fact 6 (f := .glo "compared") rfl)
  have n_is_fraction := He.glo_ok X G (c.fact 7 (f := .glo "is_fraction") rfl)
  have n_is_width := He.glo_ok X G (c.fact 8 (f := .glo "is_width") rfl)
  have n_widths_at := He.glo_ok X G (c.fact 9 (f := .glo "widths_at") rfl)
  have n_levels_at := He.glo_ok X G (c.fact 10 (f := .glo "levels_at") rfl)
  have n_valve_at := He.glo_ok X G (c.fact 11 (f := .glo "valve_at") rfl)
  have n_step_at := He.glo_ok X G (c.fact 12 (f := .glo "step_at") rfl)
  have n_ends_at := He.glo_ok X G (c.fact 13 (f := .glo "ends_at") rfl)
  have n_copied := He.glo_ok X G (c.fact 1 (f := .glo "copied") rfl)
  have n__law_pv_copied := He.glo_ok X G (c.fact 25 (f := .glo "_law_pv_copied") rfl)
  have n_check_tanks := He.glo_ok X G (c.fact 14 (f := .glo "check_tanks") rfl)
  have n_is_step := He.glo_ok X G (c.fact 15 (f := .glo "is_step") rfl)
  have n_tanks_of := He.glo_ok X G (c.fact 16 (f := .glo "tanks_of") rfl)
  have n_check_step := He.glo_ok X G (c.fact 17 (f := .glo "check_step") rfl)
  have n__law_pv_sack := He.glo_ok X G (c.fact 18 (f := .glo "_law_pv_sack") rfl)
  have n__law_pv_coin := He.glo_ok X G (c.fact 19 (f := .glo "_law_pv_coin") rfl)
  have n__law_pv_shared := He.glo_ok X G (c.fact 20 (f := .glo "_law_pv_shared") rfl)
  have n__law_pv_ratio := He.glo_ok X G (c.fact 21 (f := .glo "_law_pv_ratio") rfl)
  have n__law_pv_add := He.glo_ok X G (c.fact 22 (f := .glo "_law_pv_add") rfl)
  have n__law_pv_mul := He.glo_ok X G (c.fact 23 (f := .glo "_law_pv_mul") rfl)
  have n__law_pv_side := He.glo_ok X G (c.fact 24 (f := .glo "_law_pv_side") rfl)
  have n__law_pv_part := He.glo_ok X G (c.fact 29 (f := .glo "_law_pv_part") rfl)
  have n__law_pv_two := He.glo_ok X G (c.fact 31 (f := .glo "_law_pv_two") rfl)
  have n__law_pv_vessels := He.glo_ok X G (c.fact 30 (f := .glo "_law_pv_vessels") rfl)
  have n__law_pv_deed := He.glo_ok X G (c.fact 32 (f := .glo "_law_pv_deed") rfl)
  have n__law_pv_shape := He.glo_ok X G (c.fact 33 (f := .glo "_law_pv_shape") rfl)
  have n__law_pv_long := He.glo_ok X G (c.fact 34 (f := .glo "_law_pv_long") rfl)
  have n__law_pv_wide := He.glo_ok X G (c.fact 35 (f := .glo "_law_pv_wide") rfl)
  have n__law_pv_any_wide := He.glo_ok X G (c.fact 48 (f := .glo "_law_pv_any_wide") rfl)
  have n__law_pv_broads := He.glo_ok X G (c.fact 39 (f := .glo "_law_pv_broads") rfl)
  have n__law_pv_bench := He.glo_ok X G (c.fact 40 (f := .glo "_law_pv_bench") rfl)
  have n__law_pv_does := He.glo_ok X G (c.fact 41 (f := .glo "_law_pv_does") rfl)
  have n__law_pv_capped := He.glo_ok X G (c.fact 46 (f := .glo "_law_pv_capped") rfl)
  have n__law_pv_any_shape := He.glo_ok X G (c.fact 47 (f := .glo "_law_pv_any_shape") rfl)
  have n__law_pv_lists := He.glo_ok X G (c.fact 26 (f := .glo "_law_pv_lists") rfl)
  have n__law_pv_marked := He.glo_ok X G (c.fact 27 (f := .glo "_law_pv_marked") rfl)
  have n__law_pv_right := He.glo_ok X G (c.fact 28 (f := .glo "_law_pv_right") rfl)
  have n__law_pv_heights := He.glo_ok X G (c.fact 36 (f := .glo "_law_pv_heights") rfl)
  have n__law_pv_over := He.glo_ok X G (c.fact 38 (f := .glo "_law_pv_over") rfl)
  have n__law_pv_begun := He.glo_ok X G (c.fact 43 (f := .glo "_law_pv_begun") rfl)
  have n__law_pv_after := He.glo_ok X G (c.fact 37 (f := .glo "_law_pv_after") rfl)
  have n__law_pv_gone := He.glo_ok X G (c.fact 44 (f := .glo "_law_pv_gone") rfl)
  have n__law_pv_total := He.glo_ok X G (c.fact 45 (f := .glo "_law_pv_total") rfl)
  have n__law_pv_bench_right := He.glo_ok X G (c.fact 42 (f := .glo "_law_pv_bench_right") rfl)
  have n__law_pv_checked := He.glo_ok X G (c.fact 49 (f := .glo "_law_pv_checked") rfl)
  have n_law := He.glo_ok X G (c.fact 50 (f := .glo "law") rfl)
  have m_TypeError : mg "TypeError" = none := He.free_ok X G (c.fact 60 (f := .free "TypeError") rfl)
  have m_ValueError : mg "ValueError" = none := He.free_ok X G (c.fact 61 (f := .free "ValueError") rfl)
  have m_abs : mg "abs" = none := He.free_ok X G (c.fact 62 (f := .free "abs") rfl)
  have m_int : mg "int" = none := He.free_ok X G (c.fact 63 (f := .free "int") rfl)
  have m_isinstance : mg "isinstance" = none := He.free_ok X G (c.fact 64 (f := .free "isinstance") rfl)
  have m_len : mg "len" = none := He.free_ok X G (c.fact 65 (f := .free "len") rfl)
  have m_list : mg "list" = none := He.free_ok X G (c.fact 66 (f := .free "list") rfl)
  have m_max : mg "max" = none := He.free_ok X G (c.fact 67 (f := .free "max") rfl)
  have m_min : mg "min" = none := He.free_ok X G (c.fact 68 (f := .free "min") rfl)
  have m_property : mg "property" = none := He.free_ok X G (c.fact 69 (f := .free "property") rfl)
  have m_range : mg "range" = none := He.free_ok X G (c.fact 70 (f := .free "range") rfl)
  have m_repr : mg "repr" = none := He.free_ok X G (c.fact 71 (f := .free "repr") rfl)
  have m_set : mg "set" = none := He.free_ok X G (c.fact 72 (f := .free "set") rfl)
  have m_sorted : mg "sorted" = none := He.free_ok X G (c.fact 73 (f := .free "sorted") rfl)
  have m_tuple : mg "tuple" = none := He.free_ok X G (c.fact 74 (f := .free "tuple") rfl)
  have m_zip : mg "zip" = none := He.free_ok X G (c.fact 75 (f := .free "zip") rfl)
  have e := hfa.symm.trans n_law
  cases e
  have b := FunD.bindsA (ps := ["script"]) F_law fun _ _ _ _ _ _ us hl => match us, hl with | [_], _ => rfl
  refine ⟨fd_law, fun s v => b s [v] rfl, fun base _ _ => ?_⟩
  have g0_divisor := g_divisor (P := P) (w := w) (mg := mg) (base := base) F_divisor m_abs
  have h_divisor := b_divisor g0_divisor F_divisor n_divisor
  have g0_reduced := g_reduced (P := P) (w := w) (mg := mg) (base := base) F_reduced h_divisor
  have h_reduced := b_reduced g0_reduced F_reduced n_reduced
  have g0_added := g_added (P := P) (w := w) (mg := mg) (base := base) F_added h_reduced
  have h_added := b_added g0_added F_added n_added
  have g0_multiplied := g_multiplied (P := P) (w := w) (mg := mg) (base := base) F_multiplied h_reduced
  have h_multiplied := b_multiplied g0_multiplied F_multiplied n_multiplied
  have g0_compared := g_compared (P := P) (w := w) (mg := mg) (base := base) F_compared m_int
  have h_compared := b_compared g0_compared F_compared n_compared
  have g0_is_fraction := g_is_fraction (P := P) (w := w) (mg := mg) (base := base) F_is_fraction h_divisor m_len
  have h_is_fraction := b_is_fraction g0_is_fraction F_is_fraction n_is_fraction
  have g0_is_width := g_is_width (P := P) (w := w) (mg := mg) (base := base) F_is_width h_is_fraction
  have h_is_width := b_is_width g0_is_width F_is_width n_is_width
  have g0_widths_at := g_widths_at (P := P) (w := w) (mg := mg) (base := base) F_widths_at
  have h_widths_at := b_widths_at g0_widths_at F_widths_at n_widths_at
  have g0_levels_at := g_levels_at (P := P) (w := w) (mg := mg) (base := base) F_levels_at h_reduced m_zip
  have h_levels_at := b_levels_at g0_levels_at F_levels_at n_levels_at
  have g0_valve_at := g_valve_at (P := P) (w := w) (mg := mg) (base := base) F_valve_at h_added h_reduced h_multiplied m_list
  have h_valve_at := b_valve_at g0_valve_at F_valve_at n_valve_at
  have g0_step_at := g_step_at (P := P) (w := w) (mg := mg) (base := base) F_step_at h_valve_at h_added h_multiplied m_list
  have h_step_at := b_step_at g0_step_at F_step_at n_step_at
  have g0_ends_at := g_ends_at (P := P) (w := w) (mg := mg) (base := base) F_ends_at h_levels_at h_compared
  have h_ends_at := b_ends_at g0_ends_at F_ends_at n_ends_at
  have r_copied : ∀ n, Hs P w K mg base "copied" (["thing"] : List Str) n (cCopy n) := by
    intro n
    induction n with
    | zero => exact b_copied (fn_void fun as Q ⟨d, _, z, _⟩ => z) F_copied n_copied
    | succ n ih => exact b_copied (g_copied F_copied n ih m_isinstance m_list m_tuple) F_copied n_copied
  have h_copied := r_copied 8
  have r__law_pv_copied : ∀ n, Hs P w K mg base "_law_pv_copied" (["thing"] : List Str) n (cCopy n) := by
    intro n
    induction n with
    | zero => exact b__law_pv_copied (fn_void fun as Q ⟨d, _, z, _⟩ => z) F__law_pv_copied n__law_pv_copied
    | succ n ih => exact b__law_pv_copied (g__law_pv_copied F__law_pv_copied n ih m_isinstance m_list m_tuple) F__law_pv_copied n__law_pv_copied
  have h__law_pv_copied := r__law_pv_copied 8
  have g0_check_tanks := g_check_tanks (P := P) (w := w) (mg := mg) (base := base) F_check_tanks m_len
  have h_check_tanks := b_check_tanks g0_check_tanks F_check_tanks n_check_tanks
  have g0_is_step := g_is_step (P := P) (w := w) (mg := mg) (base := base) F_is_step m_len m_sorted m_set g_SIZES t_SIZES
  have h_is_step := b_is_step g0_is_step F_is_step n_is_step
  have g0_tanks_of := g_tanks_of (P := P) (w := w) (mg := mg) (base := base) F_tanks_of m_list
  have h_tanks_of := b_tanks_of g0_tanks_of F_tanks_of n_tanks_of
  have g0_check_step := g_check_step (P := P) (w := w) (mg := mg) (base := base) F_check_step h_is_step h_tanks_of h_is_fraction
  have h_check_step := b_check_step g0_check_step F_check_step n_check_step
  have g0_Bench_init := g_Bench_init (P := P) (w := w) (mg := mg) (base := base) F_Bench_init h_check_tanks h_is_width h_widths_at m_tuple cl_Bench na_first_tanks na_told_width na_all_widths na_waters na_done na_over_at
  have g0_Bench_call := g_Bench_call (P := P) (w := w) (mg := mg) (base := base) F_Bench_call h_check_step h_ends_at h_step_at h_copied m_len cl_Bench na_first_tanks na_over_at na_waters na_all_widths na_done
  have g0_Bench_levels := g_Bench_levels (P := P) (w := w) (mg := mg) (base := base) F_Bench_levels h_levels_at cl_Bench na_waters na_all_widths
  have g0_Bench_water := g_Bench_water (P := P) (w := w) (mg := mg) (base := base) F_Bench_water h_added cl_Bench na_waters
  have g0_Bench_ended := g_Bench_ended (P := P) (w := w) (mg := mg) (base := base) F_Bench_ended cl_Bench na_over_at
  have g0__law_pv_sack := g__law_pv_sack (P := P) (w := w) (mg := mg) (base := base) F__law_pv_sack m_len m_int m_max m_abs
  have h__law_pv_sack := b__law_pv_sack g0__law_pv_sack F__law_pv_sack n__law_pv_sack
  have g0__law_pv_coin := g__law_pv_coin (P := P) (w := w) (mg := mg) (base := base) F__law_pv_coin m_int
  have h__law_pv_coin := b__law_pv_coin g0__law_pv_coin F__law_pv_coin n__law_pv_coin
  have g0__law_pv_shared := g__law_pv_shared (P := P) (w := w) (mg := mg) (base := base) F__law_pv_shared m_abs m_range m_int
  have h__law_pv_shared := b__law_pv_shared g0__law_pv_shared F__law_pv_shared n__law_pv_shared
  have g0__law_pv_ratio := g__law_pv_ratio (P := P) (w := w) (mg := mg) (base := base) F__law_pv_ratio h__law_pv_shared m_int
  have h__law_pv_ratio := b__law_pv_ratio g0__law_pv_ratio F__law_pv_ratio n__law_pv_ratio
  have g0__law_pv_add := g__law_pv_add (P := P) (w := w) (mg := mg) (base := base) F__law_pv_add h__law_pv_ratio
  have h__law_pv_add := b__law_pv_add g0__law_pv_add F__law_pv_add n__law_pv_add
  have g0__law_pv_mul := g__law_pv_mul (P := P) (w := w) (mg := mg) (base := base) F__law_pv_mul h__law_pv_ratio
  have h__law_pv_mul := b__law_pv_mul g0__law_pv_mul F__law_pv_mul n__law_pv_mul
  have g0__law_pv_side := g__law_pv_side (P := P) (w := w) (mg := mg) (base := base) F__law_pv_side m_int
  have h__law_pv_side := b__law_pv_side g0__law_pv_side F__law_pv_side n__law_pv_side
  have g0__law_pv_part := g__law_pv_part (P := P) (w := w) (mg := mg) (base := base) F__law_pv_part h__law_pv_coin h__law_pv_ratio
  have h__law_pv_part := b__law_pv_part g0__law_pv_part F__law_pv_part n__law_pv_part
  have g0__law_pv_two := g__law_pv_two (P := P) (w := w) (mg := mg) (base := base) F__law_pv_two h__law_pv_coin m_int
  have h__law_pv_two := b__law_pv_two g0__law_pv_two F__law_pv_two n__law_pv_two
  have g0__law_pv_vessels := g__law_pv_vessels (P := P) (w := w) (mg := mg) (base := base) F__law_pv_vessels h__law_pv_coin m_range m_min
  have h__law_pv_vessels := b__law_pv_vessels g0__law_pv_vessels F__law_pv_vessels n__law_pv_vessels
  have g0__law_pv_deed := g__law_pv_deed (P := P) (w := w) (mg := mg) (base := base) F__law_pv_deed h__law_pv_coin h__law_pv_part h__law_pv_two m_len m_range
  have h__law_pv_deed := b__law_pv_deed g0__law_pv_deed F__law_pv_deed n__law_pv_deed
  have g0__law_pv_shape := g__law_pv_shape (P := P) (w := w) (mg := mg) (base := base) F__law_pv_shape h__law_pv_coin h__law_pv_deed h__law_pv_vessels m_range m_int
  have h__law_pv_shape := b__law_pv_shape g0__law_pv_shape F__law_pv_shape n__law_pv_shape
  have g0__law_pv_long := g__law_pv_long (P := P) (w := w) (mg := mg) (base := base) F__law_pv_long h__law_pv_coin h__law_pv_deed h__law_pv_vessels m_range
  have h__law_pv_long := b__law_pv_long g0__law_pv_long F__law_pv_long n__law_pv_long
  have g0__law_pv_wide := g__law_pv_wide (P := P) (w := w) (mg := mg) (base := base) F__law_pv_wide h__law_pv_coin h__law_pv_ratio
  have h__law_pv_wide := b__law_pv_wide g0__law_pv_wide F__law_pv_wide n__law_pv_wide
  have g0__law_pv_any_wide := g__law_pv_any_wide (P := P) (w := w) (mg := mg) (base := base) F__law_pv_any_wide h__law_pv_coin h__law_pv_wide h__law_pv_ratio
  have h__law_pv_any_wide := b__law_pv_any_wide g0__law_pv_any_wide F__law_pv_any_wide n__law_pv_any_wide
  have g0__law_pv_broads := g__law_pv_broads (P := P) (w := w) (mg := mg) (base := base) F__law_pv_broads
  have h__law_pv_broads := b__law_pv_broads g0__law_pv_broads F__law_pv_broads n__law_pv_broads
  have mp_Bench_1_0 : HmP_ P w K mg base (He.ga K "Bench") "Bench" ["self", "tanks", "width"] ["width", "tanks"] [1, 0] 4 (cBInit (He.ga K "Bench")) := ⟨_, fd_Bench_init, n_Bench, mr_Bench, bndP_of (ps := (["self", "tanks", "width"] : List Str)) (ks := (["width", "tanks"] : List Str)) (n := 0) F_Bench_init fun _ _ _ _ _ _ _ us ws h1 h2 => match us, ws, h1, h2 with | [], [_, _], _, _ => rfl, g0_Bench_init⟩
  have B_Bench_init : Binds K fd_Bench_init (["self", "tanks", "width"] : List Str) [] := FunD.bindsN (ps := (["self", "tanks", "width"] : List Str)) F_Bench_init fun _ _ _ _ _ _ us hl => match us, hl with | [_, _, _], _ => rfl
  have mk_Bench : Hm_ P w K mg base (He.ga K "Bench") "Bench" ["self", "tanks", "width"] 4 (cBInit (He.ga K "Bench")) := ⟨_, fd_Bench_init, n_Bench, mr_Bench, B_Bench_init, g0_Bench_init⟩
  have g0__law_pv_bench := g__law_pv_bench (P := P) (w := w) (mg := mg) (base := base) F__law_pv_bench h__law_pv_copied h__law_pv_coin mp_Bench_1_0 mk_Bench
  have h__law_pv_bench := b__law_pv_bench g0__law_pv_bench F__law_pv_bench n__law_pv_bench
  have in_Bench_step : Hin_ P w K mg base (He.ga K "Bench") ["self", "step"] ["step"] 9 (cBCall (He.ga K "Bench")) := ⟨_, fd_Bench_call, callO_of F_Bench_call mt_Bench___call__, bndI_of (ps := (["self", "step"] : List Str)) (ks := (["step"] : List Str)) F_Bench_call fun _ _ _ _ _ _ us ws h1 h2 => match us, ws, (by have h3 : ws.length = 1 := h1; have h4 : us.length + ws.length = 2 := h2; omega : us.length = 1), h1 with | [_], [_], _, _ => rfl, g0_Bench_call⟩
  have in_Bench : Hin_ P w K mg base (He.ga K "Bench") ["self", "step"] [] 9 (cBCall (He.ga K "Bench")) := ⟨_, fd_Bench_call, callO_of F_Bench_call mt_Bench___call__, bndI_of (ps := (["self", "step"] : List Str)) (ks := ([] : List Str)) F_Bench_call fun _ _ _ _ _ _ us ws h1 h2 => match us, ws, (by have h3 : ws.length = 0 := h1; have h4 : us.length + ws.length = 2 := h2; omega : us.length = 2), h1 with | [_, _], [], _, _ => rfl, g0_Bench_call⟩
  have g0__law_pv_does := g__law_pv_does (P := P) (w := w) (mg := mg) (base := base) F__law_pv_does h__law_pv_copied h__law_pv_coin m_isinstance m_list m_len in_Bench_step in_Bench
  have h__law_pv_does := b__law_pv_does g0__law_pv_does F__law_pv_does n__law_pv_does
  have g0__law_pv_capped := g__law_pv_capped (P := P) (w := w) (mg := mg) (base := base) F__law_pv_capped h__law_pv_long m_len
  have h__law_pv_capped := b__law_pv_capped g0__law_pv_capped F__law_pv_capped n__law_pv_capped
  have g0__law_pv_any_shape := g__law_pv_any_shape (P := P) (w := w) (mg := mg) (base := base) F__law_pv_any_shape h__law_pv_coin h__law_pv_capped h__law_pv_shape
  have h__law_pv_any_shape := b__law_pv_any_shape g0__law_pv_any_shape F__law_pv_any_shape n__law_pv_any_shape
  have r__law_pv_lists : ∀ n, Hs P w K mg base "_law_pv_lists" (["thing"] : List Str) n (cLists n) := by
    intro n
    induction n with
    | zero => exact b__law_pv_lists (fn_void fun as Q ⟨d, _, z, _⟩ => z) F__law_pv_lists n__law_pv_lists
    | succ n ih => exact b__law_pv_lists (g__law_pv_lists F__law_pv_lists n ih m_isinstance m_list m_tuple) F__law_pv_lists n__law_pv_lists
  have h__law_pv_lists := r__law_pv_lists 8
  have g0__law_pv_marked := g__law_pv_marked (P := P) (w := w) (mg := mg) (base := base) F__law_pv_marked h__law_pv_lists m_len m_range m_repr kl
  have h__law_pv_marked := b__law_pv_marked g0__law_pv_marked F__law_pv_marked n__law_pv_marked
  have g0__law_pv_right := g__law_pv_right (P := P) (w := w) (mg := mg) (base := base) F__law_pv_right h__law_pv_marked h__law_pv_copied m_repr kl
  have h__law_pv_right := b__law_pv_right g0__law_pv_right F__law_pv_right n__law_pv_right
  have g0_Script_init := g_Script_init (P := P) (w := w) (mg := mg) (base := base) F_Script_init h_check_tanks h_check_step h_copied m_len m_tuple cl_Script na_kept_tanks na_kept_steps
  have g0_Script_tanks := g_Script_tanks (P := P) (w := w) (mg := mg) (base := base) F_Script_tanks m_list cl_Script na_kept_tanks
  have B_Script_init : Binds K fd_Script_init (["self", "tanks", "steps"] : List Str) [] := FunD.bindsN (ps := (["self", "tanks", "steps"] : List Str)) F_Script_init fun _ _ _ _ _ _ us hl => match us, hl with | [_, _, _], _ => rfl
  have mk_Script : Hm_ P w K mg base (He.ga K "Script") "Script" ["self", "tanks", "steps"] 9 (cInit (He.ga K "Script")) := ⟨_, fd_Script_init, n_Script, mr_Script, B_Script_init, g0_Script_init⟩
  have g0_Bench_script := g_Bench_script (P := P) (w := w) (mg := mg) (base := base) F_Bench_script mk_Script cl_Bench na_done na_first_tanks
  have g0__law_pv_heights := g__law_pv_heights (P := P) (w := w) (mg := mg) (base := base) F__law_pv_heights h__law_pv_ratio m_range m_len
  have h__law_pv_heights := b__law_pv_heights g0__law_pv_heights F__law_pv_heights n__law_pv_heights
  have g0__law_pv_over := g__law_pv_over (P := P) (w := w) (mg := mg) (base := base) F__law_pv_over h__law_pv_heights h__law_pv_side
  have h__law_pv_over := b__law_pv_over g0__law_pv_over F__law_pv_over n__law_pv_over
  have g0__law_pv_begun := g__law_pv_begun (P := P) (w := w) (mg := mg) (base := base) F__law_pv_begun
  have h__law_pv_begun := b__law_pv_begun g0__law_pv_begun F__law_pv_begun n__law_pv_begun
  have g0__law_pv_after := g__law_pv_after (P := P) (w := w) (mg := mg) (base := base) F__law_pv_after h__law_pv_add h__law_pv_mul m_list
  have h__law_pv_after := b__law_pv_after g0__law_pv_after F__law_pv_after n__law_pv_after
  have g0__law_pv_gone := g__law_pv_gone (P := P) (w := w) (mg := mg) (base := base) F__law_pv_gone h__law_pv_over h__law_pv_after m_len
  have h__law_pv_gone := b__law_pv_gone g0__law_pv_gone F__law_pv_gone n__law_pv_gone
  have g0_Script_steps := g_Script_steps (P := P) (w := w) (mg := mg) (base := base) F_Script_steps h_copied cl_Script na_kept_steps
  have g0_Bench_len := g_Bench_len (P := P) (w := w) (mg := mg) (base := base) F_Bench_len m_len cl_Bench na_done
  have g0__law_pv_total := g__law_pv_total (P := P) (w := w) (mg := mg) (base := base) F__law_pv_total h__law_pv_add
  have h__law_pv_total := b__law_pv_total g0__law_pv_total F__law_pv_total n__law_pv_total
  have B_Bench_water : Binds K fd_Bench_water (["self"] : List Str) [] := FunD.bindsN (ps := (["self"] : List Str)) F_Bench_water fun _ _ _ _ _ _ us hl => match us, hl with | [_], _ => rfl
  have me_Bench_water : Hme_ P w K mg base (He.ga K "Bench") "water" ["self"] 4 (cBWater (He.ga K "Bench")) := ⟨_, fd_Bench_water, cl_Bench, mt_Bench_water, B_Bench_water, g0_Bench_water⟩
  have B_Bench_levels : Binds K fd_Bench_levels (["self"] : List Str) [] := FunD.bindsN (ps := (["self"] : List Str)) F_Bench_levels fun _ _ _ _ _ _ us hl => match us, hl with | [_], _ => rfl
  have me_Bench_levels : Hme_ P w K mg base (He.ga K "Bench") "levels" ["self"] 4 (cBLevels (He.ga K "Bench")) := ⟨_, fd_Bench_levels, cl_Bench, mt_Bench_levels, B_Bench_levels, g0_Bench_levels⟩
  have B_Bench_len : Binds K fd_Bench_len (["self"] : List Str) [] := FunD.bindsN (ps := (["self"] : List Str)) F_Bench_len fun _ _ _ _ _ _ us hl => match us, hl with | [_], _ => rfl
  have me_Bench_len : Hme_ P w K mg base (He.ga K "Bench") "__len__" ["self"] 1 (cBLen (He.ga K "Bench")) := ⟨_, fd_Bench_len, cl_Bench, mt_Bench___len__, B_Bench_len, g0_Bench_len⟩
  have B_Bench_ended : Binds K fd_Bench_ended (["self"] : List Str) [] := FunD.bindsN (ps := (["self"] : List Str)) F_Bench_ended fun _ _ _ _ _ _ us hl => match us, hl with | [_], _ => rfl
  have pr_Bench_ended : Hp_ P w K mg base (He.ga K "Bench") "ended" 1 (cBEnded (He.ga K "Bench")) := ⟨_, _, fd_Bench_ended, cl_Bench, P_Bench_ended, B_Bench_ended, g0_Bench_ended⟩
  have B_Bench_script : Binds K fd_Bench_script (["self"] : List Str) [] := FunD.bindsN (ps := (["self"] : List Str)) F_Bench_script fun _ _ _ _ _ _ us hl => match us, hl with | [_], _ => rfl
  have me_Bench_script : Hme_ P w K mg base (He.ga K "Bench") "script" ["self"] 11 (cBScript (He.ga K "Bench") (He.ga K "Script")) := ⟨_, fd_Bench_script, cl_Bench, mt_Bench_script, B_Bench_script, g0_Bench_script⟩
  have B_Script_steps : Binds K fd_Script_steps (["self"] : List Str) [] := FunD.bindsN (ps := (["self"] : List Str)) F_Script_steps fun _ _ _ _ _ _ us hl => match us, hl with | [_], _ => rfl
  have pr_Script_steps : Hp_ P w K mg base (He.ga K "Script") "steps" 9 (cStepsC (He.ga K "Script")) := ⟨_, _, fd_Script_steps, cl_Script, P_Script_steps, B_Script_steps, g0_Script_steps⟩
  have B_Script_tanks : Binds K fd_Script_tanks (["self"] : List Str) [] := FunD.bindsN (ps := (["self"] : List Str)) F_Script_tanks fun _ _ _ _ _ _ us hl => match us, hl with | [_], _ => rfl
  have pr_Script_tanks : Hp_ P w K mg base (He.ga K "Script") "tanks" 1 (cTanks (He.ga K "Script")) := ⟨_, _, fd_Script_tanks, cl_Script, P_Script_tanks, B_Script_tanks, g0_Script_tanks⟩
  have g0__law_pv_bench_right := g__law_pv_bench_right (P := P) (w := w) (mg := mg) (base := base) F__law_pv_bench_right h__law_pv_heights h__law_pv_right h__law_pv_total m_len me_Bench_water me_Bench_levels me_Bench_len pr_Bench_ended me_Bench_script pr_Script_steps pr_Script_tanks
  have h__law_pv_bench_right := b__law_pv_bench_right g0__law_pv_bench_right F__law_pv_bench_right n__law_pv_bench_right
  have g0__law_pv_checked := g__law_pv_checked (P := P) (w := w) (mg := mg) (base := base) F__law_pv_checked h__law_pv_any_shape h__law_pv_any_wide h__law_pv_begun h__law_pv_broads h__law_pv_bench h__law_pv_bench_right h__law_pv_deed h__law_pv_gone h__law_pv_does m_range m_len m_repr kl
  have h__law_pv_checked := b__law_pv_checked g0__law_pv_checked F__law_pv_checked n__law_pv_checked
  exact g_law F_law h__law_pv_checked h__law_pv_sack m_range m_max m_min m_len
end My
open PySem PySem.W PySem.Calls PyProof.Rows
theorem PySem.Challenge.cw_valvelevels_k46_benches_led_holds : PySem.Challenge.rw_valvelevels_k46_benches_led.Holds := by
  w_on; o_law
  refine HandSHeadRun.head_any (r := OpenLaw.row PySem.Challenge.rw_valvelevels_k46_benches_led) (q := view (OpenLaw.row PySem.Challenge.rw_valvelevels_k46_benches_led).prog [66]) (H := My.hk) (ob := My.ob) (M := 6000) (loose := My.loose) (d := HandSHeadRun.topDef (OpenLaw.row PySem.Challenge.rw_valvelevels_k46_benches_led).prog 66) (kwd := []) My.ob_eq
    (by kernel_rfl) (fun s => by kernel_rfl) My.run (by kernel_rfl) (by kernel_rfl) (by kernel_rfl) (by rfl) (by first | assumption | decide +kernel) (by decide +kernel) ⟨rfl, rfl, rfl, rfl, rfl, by decide +kernel⟩ ?hw ?hc
  case hw => w_witness2
  case hc =>
    refine DL.walk_ofG (l := PySem.Challenge.rw_valvelevels_k46_benches_led) (n := 63) (k := 14) (x := "script") rfl (by decide) (by kernel_rfl) ⟨⟨rfl, by decide, by decide⟩, rfl⟩ ?_
    intro w mg fa h Y G hmg0
    obtain ⟨K, KX, c⟩ := Y
    have hmg : mg ("law" : PySem.Str) = some (.ref fa) := by
      have e : (HandSHeadRun.topDef (OpenLaw.row PySem.Challenge.rw_valvelevels_k46_benches_led).prog 66).name = ("law" : PySem.Str) := by kernel_rfl
      rw [← e]
      exact hmg0
    obtain ⟨fd, hb, hF⟩ := My.facts (P := (PySem.Challenge.rw_valvelevels_k46_benches_led).prog) (w := w) KX G hmg c
    exact ⟨K, fd, DL.cLawS, KX, hb, fun _ _ z => z, hF⟩
