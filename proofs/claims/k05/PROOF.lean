import PyProof.Rows.All
import Wide.All
import OpenK.AllK
import Wide.FinOn
import KE.KStateDown
import Lean
import HandS.ForMost
import HandS.Exc
import HandS.WordsExc
import HandS.More
import HandS.Defaults
import HandS.Wide
import HandS.Zip
import HandS.IsInst
import HandS.Flow
import HandS.Style
import PyProof.ReprLen
import HandS.Head0
import HandS.Head1
import HandS.Head2
import HandS.HeadEnd
import HandS.HeadHook1
import HandS.HeadHook2
import HandS.EndBits
import PySem.Challenge.RW_valvelevels_k05_rows_of_rests_and_turns
set_option Elab.async false
set_option linter.all false
set_option maxRecDepth 100000
set_option maxHeartbeats 2000000
namespace DL
open PySem PySem.Spec PyProof.Rows L2

/-- plain data, instances of own classes among them -/
inductive DD where
  | non | bl (b : Bool) | int (i : Int) | str (x : Str) | lst (l : List DD) | tup (l : List DD) | obj (C : Addr) (fs : List (Str × DD)) | opq (v : V) | at_ (v : V) (d : DD) | klst (l : List DD)

mutual
inductive Rq (K : PySem.W.Frag) (G : Hp) : V → DD → Prop
  | non : Rq K G .non .non
  | bl (b : Bool) : Rq K G (.bl b) (.bl b)
  | int (i : Int) : Rq K G (.int i) (.int i)
  | str (x : Str) : Rq K G (.str x) (.str x)
  | opq (v : V) : Rq K G v (.opq v)
  | lst {a : Addr} {xs : List V} {ds : List DD} : Rd G a (.lst xs) → RqA K G xs ds → Rq K G (.ref a) (.lst ds)
  | tup {a : Addr} {xs : List V} {ds : List DD} : SqT K G a xs → RqA K G xs ds → Rq K G (.ref a) (.tup ds)
  | obj {a C dx : Addr} {fs : List (Str × V)} {ds : List (Str × DD)} : G a = some (.ins C dx fs) → RqF K G fs ds → Rq K G (.ref a) (.obj C ds)
  | at_ {v : V} {d : DD} : Rq K G v d → Rq K G v (.at_ v d)
  | klst {a : Addr} {xs : List V} {ds : List DD} : SqL K (fun _ => none) a xs → RqA K G xs ds → Rq K G (.ref a) (.klst ds)
inductive RqA (K : PySem.W.Frag) (G : Hp) : List V → List DD → Prop
  | nil : RqA K G [] []
  | cons {v : V} {vs : List V} {d : DD} {ds : List DD} : Rq K G v d → RqA K G vs ds → RqA K G (v :: vs) (d :: ds)
inductive RqF (K : PySem.W.Frag) (G : Hp) : List (Str × V) → List (Str × DD) → Prop
  | nil : RqF K G [] []
  | cons {f : Str} {v : V} {vs : List (Str × V)} {d : DD} {ds : List (Str × DD)} : Rq K G v d → RqF K G vs ds → RqF K G ((f, v) :: vs) ((f, d) :: ds)
end

def Sub (G H : Hp) : Prop := ∀ a o, G a = some o → H a = some o
theorem Sub.refl (G : Hp) : Sub G G := fun _ _ h => h
theorem Sub.trans {G H I : Hp} (a : Sub G H) (b : Sub H I) : Sub G I := fun x o h => b x o (a x o h)
theorem Sub.rd {G H : Hp} (s : Sub G H) {a : Addr} {u : HO} (h : Rd G a u) : Rd H a u := h.elim (fun h => .inl (s a _ h)) fun ⟨o, h⟩ => .inr ⟨o, s a _ h⟩
theorem Sub.l {K : PySem.W.Frag} {G H : Hp} (s : Sub G H) {a : Addr} {xs : List V} (h : SqL K G a xs) : SqL K H a xs := h.elim (fun h => .inl (s.rd h)) .inr
theorem Sub.t {K : PySem.W.Frag} {G H : Hp} (s : Sub G H) {a : Addr} {xs : List V} (h : SqT K G a xs) : SqT K H a xs := h.elim (fun h => .inl (s.rd h)) .inr
section
variable {K : PySem.W.Frag} {G H : Hp} (s : Sub G H)
mutual
theorem Rq.mono (s : Sub G H) : ∀ {v : V} {d : DD}, Rq K G v d → Rq K H v d
  | _, _, .non => .non
  | _, _, .bl b => .bl b
  | _, _, .int i => .int i
  | _, _, .str x => .str x
  | _, _, .opq v => .opq v
  | _, _, .lst h a => .lst (s.rd h) (RqA.mono s a)
  | _, _, .tup h a => .tup (s.t h) (RqA.mono s a)
  | _, _, .obj h a => .obj (s _ _ h) (RqF.mono s a)
  | _, _, .at_ h => .at_ (Rq.mono s h)
  | _, _, .klst h a => .klst h (RqA.mono s a)
theorem RqA.mono (s : Sub G H) : ∀ {v : List V} {d : List DD}, RqA K G v d → RqA K H v d
  | _, _, .nil => .nil
  | _, _, .cons a b => .cons (Rq.mono s a) (RqA.mono s b)
theorem RqF.mono (s : Sub G H) : ∀ {v : List (Str × V)} {d : List (Str × DD)}, RqF K G v d → RqF K H v d
  | _, _, .nil => .nil
  | _, _, .cons a b => .cons (Rq.mono s a) (RqF.mono s b)
end
end

mutual
def DD.py : DD → PyData
  | .non => .none
  | .bl b => .bool b
  | .int i => .int i
  | .str x => .str x
  | .lst l => .list (DD.pys l)
  | .tup l => .tuple (DD.pys l)
  | .obj _ _ => .none
  | .opq _ => .none
  | .at_ _ d => d.py
  | .klst l => .list (DD.pys l)
def DD.pys : List DD → List PyData
  | [] => []
  | d :: r => d.py :: DD.pys r
end
mutual
def DD.pure : DD → Bool
  | .lst l => DD.pures l
  | .tup l => DD.pures l
  | .obj _ _ => false
  | .opq _ => false
  | .at_ _ d => d.pure
  | .klst l => DD.pures l
  | _ => true
def DD.pures : List DD → Bool
  | [] => true
  | d :: r => d.pure && DD.pures r
end
mutual
theorem Rq.dp {K : PySem.W.Frag} {G : Hp} : ∀ {v : V} {d : DD}, Rq K G v d → d.pure = true → Dp K G v d.py
  | _, _, .non, _ => .non
  | _, _, .bl b, _ => .bl b
  | _, _, .int i, _ => .int i
  | _, _, .str x, _ => .str x
  | _, _, .lst h a, p => .lst (.inl h) (RqA.dp a p)
  | _, _, .tup h a, p => .tup h (RqA.dp a p)
  | _, _, .at_ (v := v) (d := d) h, p => (Rq.dp (v := v) (d := d) h p : Dp K G v d.py)
  | _, _, .klst h a, p => .lst (Sub.l (G := fun _ => none) (fun _ _ z => by cases z) h) (RqA.dp a p)
theorem RqA.dp {K : PySem.W.Frag} {G : Hp} : ∀ {v : List V} {d : List DD}, RqA K G v d → DD.pures d = true → DpAll K G v (DD.pys d)
  | _, _, .nil, _ => .nil
  | _, _, .cons a b, p => .cons (Rq.dp a (by simp [DD.pures] at p; exact p.1)) (RqA.dp b (by simp [DD.pures] at p; exact p.2))
end
theorem RqA.length {K : PySem.W.Frag} {G : Hp} : ∀ {v : List V} {d : List DD}, RqA K G v d → v.length = d.length
  | _, _, .nil => rfl
  | _, _, .cons _ b => congrArg (· + 1) (RqA.length b)
theorem RqA.get {K : PySem.W.Frag} {G : Hp} : ∀ {v : List V} {d : List DD} {i : Nat} {x : DD}, RqA K G v d → d[i]? = some x → ∃ u, v[i]? = some u ∧ Rq K G u x
  | _, _, _, _, .nil, e => by simp at e
  | _, _, 0, _, .cons a _, e => by simp at e; subst e; exact ⟨_, rfl, a⟩
  | _, _, i + 1, _, .cons _ b, e => by
    obtain ⟨u, h1, h2⟩ := RqA.get (i := i) b (by simpa using e)
    exact ⟨u, by simpa using h1, h2⟩
theorem RqA.getV {K : PySem.W.Frag} {G : Hp} : ∀ {v : List V} {d : List DD} {i : Nat} {u : V}, RqA K G v d → v[i]? = some u → ∃ x, d[i]? = some x ∧ Rq K G u x
  | _, _, _, _, .nil, e => by simp at e
  | _, _, 0, _, .cons a _, e => by simp at e; subst e; exact ⟨_, rfl, a⟩
  | _, _, i + 1, _, .cons _ b, e => by
    obtain ⟨u, h1, h2⟩ := RqA.getV (i := i) b (by simpa using e)
    exact ⟨u, by simpa using h1, h2⟩
theorem RqA.append {K : PySem.W.Frag} {G : Hp} : ∀ {v w : List V} {d e : List DD}, RqA K G v d → RqA K G w e → RqA K G (v ++ w) (d ++ e)
  | _, _, _, _, .nil, h => h
  | _, _, _, _, .cons a b, h => .cons a (RqA.append b h)
theorem RqA.take {K : PySem.W.Frag} {G : Hp} : ∀ {v : List V} {d : List DD} (n : Nat), RqA K G v d → RqA K G (v.take n) (d.take n)
  | _, _, 0, _ => .nil
  | _, _, _ + 1, .nil => .nil
  | _, _, n + 1, .cons a b => .cons a (RqA.take n b)
theorem RqA.drop {K : PySem.W.Frag} {G : Hp} : ∀ {v : List V} {d : List DD} (n : Nat), RqA K G v d → RqA K G (v.drop n) (d.drop n)
  | _, _, 0, h => h
  | _, _, _ + 1, .nil => .nil
  | _, _, n + 1, .cons _ b => RqA.drop n b
theorem RqA.set {K : PySem.W.Frag} {G : Hp} {x : V} {y : DD} (r : Rq K G x y) : ∀ {v : List V} {d : List DD} (n : Nat), RqA K G v d → RqA K G (v.set n x) (d.set n y)
  | _, _, _, .nil => .nil
  | _, _, 0, .cons _ b => .cons r b
  | _, _, n + 1, .cons a b => .cons a (RqA.set r n b)
theorem RqA.reverse {K : PySem.W.Frag} {G : Hp} {v : List V} {d : List DD} (h : RqA K G v d) : RqA K G v.reverse d.reverse := by
  have aux : ∀ {v : List V} {d : List DD}, RqA K G v d → RqA K G v.reverse d.reverse := by
    intro v
    induction v with
    | nil => intro d h; cases h; exact .nil
    | cons x v ih =>
      intro d h
      cases h with
      | cons a b =>
        rw [List.reverse_cons, List.reverse_cons]
        exact RqA.append (ih b) (.cons a .nil)
  exact aux h

/-! ### trees of lists and instances that are held by one place alone -/
inductive SV where
  | dat (d : DD)
  | own (ts : List SV)
  | ob (C : Addr) (fs : List (Str × SV))
abbrev Rho := List (Option SV)

mutual
def SV.data : SV → DD
  | .dat d => d
  | .own ts => .lst (SV.datas ts)
  | .ob C fs => .obj C (SV.dataF fs)
def SV.datas : List SV → List DD
  | [] => []
  | t :: r => t.data :: SV.datas r
def SV.dataF : List (Str × SV) → List (Str × DD)
  | [] => []
  | (f, t) :: r => (f, t.data) :: SV.dataF r
end
theorem SV.datas_eq : ∀ ts : List SV, SV.datas ts = ts.map SV.data
  | [] => rfl
  | t :: r => by simp [SV.datas, SV.datas_eq r]

mutual
inductive OT (K : PySem.W.Frag) (G H : Hp) : V → SV → List Addr → Prop
  | dat {v : V} {d : DD} : Rq K G v d → OT K G H v (.dat d) []
  | own {a : Addr} {vs : List V} {ts : List SV} {fp : List Addr} : H a = some (.lst vs) → G a = none → OTs K G H vs ts fp → a ∉ fp → OT K G H (.ref a) (.own ts) (a :: fp)
  | ob {a C dx : Addr} {vs : List (Str × V)} {ts : List (Str × SV)} {fp : List Addr} : H a = some (.ins C dx vs) → H dx = some (.own a) → G a = none → G dx = none → OTf K G H vs ts fp → a ≠ dx → a ∉ fp → dx ∉ fp → OT K G H (.ref a) (.ob C ts) (a :: dx :: fp)
inductive OTs (K : PySem.W.Frag) (G H : Hp) : List V → List SV → List Addr → Prop
  | nil : OTs K G H [] [] []
  | cons {v : V} {t : SV} {vs : List V} {ts : List SV} {f1 f2 : List Addr} : OT K G H v t f1 → OTs K G H vs ts f2 → (∀ a ∈ f1, a ∉ f2) → OTs K G H (v :: vs) (t :: ts) (f1 ++ f2)
inductive OTf (K : PySem.W.Frag) (G H : Hp) : List (Str × V) → List (Str × SV) → List Addr → Prop
  | nil : OTf K G H [] [] []
  | cons {f : Str} {v : V} {t : SV} {vs : List (Str × V)} {ts : List (Str × SV)} {f1 f2 : List Addr} : OT K G H v t f1 → OTf K G H vs ts f2 → (∀ a ∈ f1, a ∉ f2) → OTf K G H ((f, v) :: vs) ((f, t) :: ts) (f1 ++ f2)
end
section
variable {K : PySem.W.Frag} {G H G' H' : Hp}
mutual
theorem OT.mono (s : Sub G G') : ∀ {v : V} {t : SV} {fp : List Addr}, OT K G H v t fp → (∀ a ∈ fp, ∀ o, H a = some o → H' a = some o) → (∀ a ∈ fp, G' a = none) → OT K G' H' v t fp
  | _, _, _, .dat r, _, _ => .dat (r.mono s)
  | _, _, _, .own h g ts n, k, z => .own (k _ List.mem_cons_self _ h) (z _ List.mem_cons_self) (OTs.mono s ts (fun a m => k a (List.mem_cons_of_mem _ m)) fun a m => z a (List.mem_cons_of_mem _ m)) n
  | _, _, _, .ob h hd g gd ts ne n nd, k, z => .ob (k _ List.mem_cons_self _ h) (k _ (List.mem_cons_of_mem _ List.mem_cons_self) _ hd) (z _ List.mem_cons_self) (z _ (List.mem_cons_of_mem _ List.mem_cons_self))
      (OTf.mono s ts (fun a m => k a (List.mem_cons_of_mem _ (List.mem_cons_of_mem _ m))) fun a m => z a (List.mem_cons_of_mem _ (List.mem_cons_of_mem _ m))) ne n nd
theorem OTs.mono (s : Sub G G') : ∀ {v : List V} {t : List SV} {fp : List Addr}, OTs K G H v t fp → (∀ a ∈ fp, ∀ o, H a = some o → H' a = some o) → (∀ a ∈ fp, G' a = none) → OTs K G' H' v t fp
  | _, _, _, .nil, _, _ => .nil
  | _, _, _, .cons a b d, k, z => .cons (OT.mono s a (fun x m => k x (List.mem_append_left _ m)) fun x m => z x (List.mem_append_left _ m)) (OTs.mono s b (fun x m => k x (List.mem_append_right _ m)) fun x m => z x (List.mem_append_right _ m)) d
theorem OTf.mono (s : Sub G G') : ∀ {v : List (Str × V)} {t : List (Str × SV)} {fp : List Addr}, OTf K G H v t fp → (∀ a ∈ fp, ∀ o, H a = some o → H' a = some o) → (∀ a ∈ fp, G' a = none) → OTf K G' H' v t fp
  | _, _, _, .nil, _, _ => .nil
  | _, _, _, .cons a b d, k, z => .cons (OT.mono s a (fun x m => k x (List.mem_append_left _ m)) fun x m => z x (List.mem_append_left _ m)) (OTf.mono s b (fun x m => k x (List.mem_append_right _ m)) fun x m => z x (List.mem_append_right _ m)) d
end
mutual
theorem OT.here : ∀ {v : V} {t : SV} {fp : List Addr}, OT K G H v t fp → ∀ a ∈ fp, (∃ o, H a = some o) ∧ G a = none
  | _, _, _, .dat _, a, m => by cases m
  | _, _, _, .own h g ts _, a, m => by
    rcases List.mem_cons.mp m with e | m
    · subst e; exact ⟨⟨_, h⟩, g⟩
    · exact OTs.here ts a m
  | _, _, _, .ob h hd g gd ts _ _ _, a, m => by
    rcases List.mem_cons.mp m with e | m
    · subst e; exact ⟨⟨_, h⟩, g⟩
    · rcases List.mem_cons.mp m with e | m
      · subst e; exact ⟨⟨_, hd⟩, gd⟩
      · exact OTf.here ts a m
theorem OTs.here : ∀ {v : List V} {t : List SV} {fp : List Addr}, OTs K G H v t fp → ∀ a ∈ fp, (∃ o, H a = some o) ∧ G a = none
  | _, _, _, .nil, a, m => by cases m
  | _, _, _, .cons x y _, a, m => (List.mem_append.mp m).elim (OT.here x a) (OTs.here y a)
theorem OTf.here : ∀ {v : List (Str × V)} {t : List (Str × SV)} {fp : List Addr}, OTf K G H v t fp → ∀ a ∈ fp, (∃ o, H a = some o) ∧ G a = none
  | _, _, _, .nil, a, m => by cases m
  | _, _, _, .cons x y _, a, m => (List.mem_append.mp m).elim (OT.here x a) (OTf.here y a)
end
/-- the standing part with some addresses more -/
def sealH (G H : Hp) (fp : List Addr) : Hp := fun a => if a ∈ fp then H a else G a
theorem sealH_sub {fp : List Addr} (n : ∀ a ∈ fp, G a = none) : Sub G (sealH G H fp) := fun a o h => by
  unfold sealH
  by_cases m : a ∈ fp
  · rw [n a m] at h; cases h
  · rw [if_neg m]; exact h
theorem sealH_in {fp : List Addr} {a : Addr} (m : a ∈ fp) : sealH G H fp a = H a := if_pos m
theorem sealH_out {fp : List Addr} {a : Addr} (m : a ∉ fp) : sealH G H fp a = G a := if_neg m
theorem sealH_nil : sealH G H [] = G := by funext a; unfold sealH; simp
mutual
theorem OT.sealed {F : Hp} (s : Sub G F) : ∀ {v : V} {t : SV} {fp : List Addr}, OT K G H v t fp → (∀ a ∈ fp, ∀ o, H a = some o → F a = some o) → Rq K F v t.data
  | _, _, _, .dat r, _ => r.mono s
  | _, _, _, .own h g ts n, k => .lst (.inl (k _ List.mem_cons_self _ h)) (OTs.sealed s ts fun a m => k a (List.mem_cons_of_mem _ m))
  | _, _, _, .ob h hd g gd ts _ _ _, k => .obj (k _ List.mem_cons_self _ h) (OTf.sealed s ts fun a m => k a (List.mem_cons_of_mem _ (List.mem_cons_of_mem _ m)))
theorem OTs.sealed {F : Hp} (s : Sub G F) : ∀ {v : List V} {t : List SV} {fp : List Addr}, OTs K G H v t fp → (∀ a ∈ fp, ∀ o, H a = some o → F a = some o) → RqA K F v (SV.datas t)
  | _, _, _, .nil, _ => .nil
  | _, _, _, .cons a b d, k => .cons (OT.sealed s a fun x m => k x (List.mem_append_left _ m)) (OTs.sealed s b fun x m => k x (List.mem_append_right _ m))
theorem OTf.sealed {F : Hp} (s : Sub G F) : ∀ {v : List (Str × V)} {t : List (Str × SV)} {fp : List Addr}, OTf K G H v t fp → (∀ a ∈ fp, ∀ o, H a = some o → F a = some o) → RqF K F v (SV.dataF t)
  | _, _, _, .nil, _ => .nil
  | _, _, _, .cons a b d, k => .cons (OT.sealed s a fun x m => k x (List.mem_append_left _ m)) (OTf.sealed s b fun x m => k x (List.mem_append_right _ m))
end
end
end DL

namespace DL
open PySem PySem.Spec PyProof.Rows L2

theorem OT.dat_inv {K : PySem.W.Frag} {G H : Hp} {v : V} {d : DD} {fp : List Addr} (h : OT K G H v (.dat d) fp) : Rq K G v d ∧ fp = [] := by
  generalize e : SV.dat d = t at h
  cases h with
  | dat r => injection e with e; subst e; exact ⟨r, rfl⟩
  | own => cases e
  | ob => cases e
theorem OT.own_inv {K : PySem.W.Frag} {G H : Hp} {v : V} {ts : List SV} {fp : List Addr} (h : OT K G H v (.own ts) fp) : ∃ a vs f, v = .ref a ∧ fp = a :: f ∧ H a = some (.lst vs) ∧ G a = none ∧ OTs K G H vs ts f ∧ a ∉ f := by
  generalize e : SV.own ts = t at h
  cases h with
  | dat r => cases e
  | own h g o n => injection e with e; subst e; exact ⟨_, _, _, rfl, rfl, h, g, o, n⟩
  | ob => cases e
theorem OT.ob_inv {K : PySem.W.Frag} {G H : Hp} {v : V} {C : Addr} {ts : List (Str × SV)} {fp : List Addr} (h : OT K G H v (.ob C ts) fp) :
    ∃ a dx vs f, v = .ref a ∧ fp = a :: dx :: f ∧ H a = some (.ins C dx vs) ∧ H dx = some (.own a) ∧ G a = none ∧ G dx = none ∧ OTf K G H vs ts f ∧ a ≠ dx ∧ a ∉ f ∧ dx ∉ f := by
  generalize e : SV.ob C ts = t at h
  cases h with
  | dat r => cases e
  | own => cases e
  | ob h1 h2 h3 h4 h5 h6 h7 h8 => injection e with e1 e2; subst e1 e2; exact ⟨_, _, _, _, rfl, rfl, h1, h2, h3, h4, h5, h6, h7, h8⟩
def In (fp : Nat → List Addr) (a : Addr) : Prop := ∃ i, a ∈ fp i
/-- the slots and what they hold -/
structure Co (K : PySem.W.Frag) (G H : Hp) (σ : L2.St) (ρ : Rho) (fp : Nat → List Addr) : Prop where
  len : σ.length = ρ.length
  sub : Sub G H
  slot : ∀ (i : Nat) t, ρ[i]? = some (some t) → ∃ v, σ[i]? = some (some v) ∧ OT K G H v t (fp i)
  nil : ∀ i : Nat, (∀ t, ρ[i]? ≠ some (some t)) → fp i = []
  dis : ∀ (i j : Nat) a, a ∈ fp i → a ∈ fp j → i = j
/-- a step: O may change -/
structure Stp (O : Addr → Prop) (G H G' H' : Hp) : Prop where
  ex : Sub G G'
  keep : ∀ a o, ¬ O a → H a = some o → H' a = some o
  hid : ∀ a o, ¬ O a → H a = some o → G a = none → G' a = none
theorem Stp.refl {O : Addr → Prop} (G H : Hp) : Stp O G H G H := ⟨Sub.refl G, fun _ _ _ h => h, fun _ _ _ _ h => h⟩
theorem Stp.trans {O O' : Addr → Prop} {G H G1 H1 G2 H2 : Hp} (a : Stp O G H G1 H1) (b : Stp O' G1 H1 G2 H2) (h : ∀ x, O' x → O x ∨ H x = none) : Stp O G H G2 H2 := by
  have no : ∀ x o, ¬ O x → H x = some o → ¬ O' x := fun x o n e q => by
    rcases h x q with z | z
    · exact n z
    · rw [e] at z; cases z
  exact ⟨a.ex.trans b.ex, fun x o n e => b.keep x o (no x o n e) (a.keep x o n e), fun x o n e g => b.hid x o (no x o n e) (a.keep x o n e) (a.hid x o n e g)⟩
theorem Stp.sealed {O : Addr → Prop} {G H G' H' : Hp} {fr : List Addr} (a : Stp O G H G' H') (n : ∀ x ∈ fr, G' x = none) (h : ∀ x ∈ fr, H x = none ∨ O x) : Stp O G H (sealH G' H' fr) H' :=
  ⟨a.ex.trans (sealH_sub n), a.keep, fun x o nO e g => by
    have : x ∉ fr := fun m => by
      rcases h x m with z | z
      · rw [e] at z; cases z
      · exact nO z
    rw [sealH_out this]; exact a.hid x o nO e g⟩
/-- the entry of the def -/
structure Bs where
  vs : List V
  as : List SV
  io : List Nat
  G0 : Hp
  H0 : Hp
  fp0 : Nat → List Addr
  /-- a floor: what stands from some place on -/
  L : Hp
structure Rp (K : PySem.W.Frag) (B : Bs) (G H : Hp) (σ : L2.St) (ρ : Rho) (fp : Nat → List Addr) : Prop where
  co : Co K G H σ ρ fp
  stp : Stp (In B.fp0) B.G0 B.H0 G H
  own : ∀ a, In fp a → In B.fp0 a ∨ B.H0 a = none
  io : ∀ i ∈ B.io, ∃ v t, B.vs[i]? = some v ∧ σ[i]? = some (some v) ∧ ρ[i]? = some (some t)
  lo : Sub B.L G
structure Nxt (K : PySem.W.Frag) (B : Bs) (σ : L2.St) (G H : Hp) (fp : Nat → List Addr) (G' H' : Hp) (ρ' : Rho) (fp' : Nat → List Addr) : Prop where
  rp : Rp K B G' H' σ ρ' fp'
  st : Stp (In fp) G H G' H'
  inn : ∀ a, In fp' a → In fp a ∨ H a = none
section
variable {K : PySem.W.Frag} {B : Bs} {σ : L2.St} {G H G' H' G1 H1 G2 H2 : Hp} {ρ ρ' ρ1 ρ2 : Rho} {fp fp' fp1 fp2 : Nat → List Addr}
theorem Nxt.refl (R : Rp K B G H σ ρ fp) : Nxt K B σ G H fp G H ρ fp := ⟨R, Stp.refl G H, fun _ h => .inl h⟩
theorem Stp.fresh {O : Addr → Prop} (s : Stp O G H G1 H1) {a : Addr} (n : ¬ O a) (h : H1 a = none) : H a = none := by
  cases e : H a with
  | none => rfl
  | some o => have := s.keep a o n e; rw [h] at this; cases this
theorem Nxt.trans (a : Nxt K B σ G H fp G1 H1 ρ1 fp1) (b : Nxt K B σ G1 H1 fp1 G2 H2 ρ2 fp2) : Nxt K B σ G H fp G2 H2 ρ2 fp2 :=
  ⟨b.rp, a.st.trans b.st a.inn, fun x h => (b.inn x h).elim (fun h => a.inn x h) fun h => by
    by_cases m : In fp x
    · exact .inl m
    · exact .inr (a.st.fresh m h)⟩
theorem Co.here (c : Co K G H σ ρ fp) {a : Addr} (h : In fp a) : (∃ o, H a = some o) ∧ G a = none := by
  obtain ⟨i, m⟩ := h
  by_cases q : ∃ t, ρ[i]? = some (some t)
  · obtain ⟨t, q⟩ := q
    obtain ⟨v, _, ot⟩ := c.slot i t q
    exact ot.here a m
  · rw [c.nil i fun t e => q ⟨t, e⟩] at m; cases m
/-- new objects alone -/
theorem Co.grow (c : Co K G H σ ρ fp) (s : Sub G G') (k : ∀ a, In fp a → ∀ o, H a = some o → H' a = some o) (z : ∀ a, In fp a → G' a = none) (sub : Sub G' H') : Co K G' H' σ ρ fp :=
  ⟨c.len, sub, fun i t e => by
    obtain ⟨v, e1, ot⟩ := c.slot i t e
    exact ⟨v, e1, ot.mono s (fun a m o h => k a ⟨i, m⟩ o h) fun a m => z a ⟨i, m⟩⟩, c.nil, c.dis⟩
/-- an object that nothing held is laid, and stands or is held by a temporary -/
theorem Nxt.laid {p : Addr} {o : HO} (R : Rp K B G H σ ρ fp) (hp : H p = none) : Nxt K B σ G H fp G (upd H p o) ρ fp := by
  have ne : ∀ a, In fp a → a ≠ p := fun a m e => by
    obtain ⟨⟨o, h⟩, _⟩ := R.co.here m
    subst e; rw [hp] at h; cases h
  have kp : ∀ a u, H a = some u → upd H p o a = some u := fun a u e => by rw [upd_ne (ne_of_none e hp)]; exact e
  have st : Stp (In fp) G H G (upd H p o) := ⟨Sub.refl G, fun a u _ e => kp a u e, fun _ _ _ _ g => g⟩
  exact ⟨⟨R.co.grow (Sub.refl G) (fun a m u e => kp a u e) (fun a m => (R.co.here m).2) (fun a u e => kp a u (R.co.sub a u e)), R.stp.trans st R.own, R.own, R.io, R.lo⟩, st, fun _ h => .inl h⟩
/-- a temporary is sealed -/
theorem Nxt.sealed {v : V} {r : SV} {fr : List Addr} (R : Rp K B G H σ ρ fp) (n : Nxt K B σ G H fp G' H' ρ' fp') (ot : OT K G' H' v r fr) (h1 : ∀ a ∈ fr, ¬ In fp' a) (h2 : ∀ a ∈ fr, H a = none ∨ In fp a) :
    Nxt K B σ G H fp (sealH G' H' fr) H' ρ' fp' ∧ Rq K (sealH G' H' fr) v r.data := by
  have g0 : ∀ a ∈ fr, G' a = none := fun a m => (ot.here a m).2
  have sub : Sub (sealH G' H' fr) H' := fun a o e => by
    by_cases m : a ∈ fr
    · rw [sealH_in m] at e; exact e
    · rw [sealH_out m] at e; exact n.rp.co.sub a o e
  refine ⟨⟨⟨n.rp.co.grow (sealH_sub g0) (fun _ _ _ e => e) (fun a m => ?_) sub, n.rp.stp.sealed g0 fun a m => ?_, n.rp.own, n.rp.io, n.rp.lo.trans (sealH_sub g0)⟩, n.st.sealed g0 h2, n.inn⟩, ot.sealed (sealH_sub g0) fun a m o e => by rw [sealH_in m]; exact e⟩
  · rw [sealH_out fun z => h1 a z m]; exact (n.rp.co.here m).2
  · rcases h2 a m with z | z
    · by_cases q : In B.fp0 a
      · exact .inr q
      · exact .inl (R.stp.fresh q z)
    · exact (R.own a z).symm
/-- a new object that stands from now on -/
theorem Nxt.stand {p : Addr} {o : HO} (R : Rp K B G H σ ρ fp) (hp : H p = none) : Nxt K B σ G H fp (upd G p o) (upd H p o) ρ fp := by
  have gp : G p = none := by
    cases e : G p with
    | none => rfl
    | some u => have := R.co.sub _ _ e; rw [hp] at this; cases this
  have ne : ∀ a, In fp a → a ≠ p := fun a m e => by
    obtain ⟨⟨o, h⟩, _⟩ := R.co.here m
    subst e; rw [hp] at h; cases h
  have kp : ∀ a u, H a = some u → upd H p o a = some u := fun a u e => by rw [upd_ne (ne_of_none e hp)]; exact e
  have sg : Sub G (upd G p o) := fun a u e => by rw [upd_ne (ne_of_none e gp)]; exact e
  have st : Stp (In fp) G H (upd G p o) (upd H p o) := ⟨sg, fun a u _ e => kp a u e, fun a u _ e g => by rw [upd_ne (ne_of_none e hp)]; exact g⟩
  refine ⟨⟨R.co.grow sg (fun a m u e => kp a u e) (fun a m => by rw [upd_ne (ne a m)]; exact (R.co.here m).2) (fun a u e => ?_), R.stp.trans st R.own, R.own, R.io, R.lo.trans sg⟩, st, fun _ h => .inl h⟩
  by_cases q : a = p
  · subst q; rw [upd_same] at e ⊢; exact e
  · rw [upd_ne q] at e ⊢; exact R.co.sub a u e
end

/-! ### what an expression is worth -/
abbrev FE := Rho → (SV → Rho → Prop) → Prop
abbrev FV := Rho → (DD → Rho → Prop) → Prop
/-- an operand: data, or what a slot holds when it is looked at -/
inductive OV where
  | d (x : DD)
  | r (i : Nat)
abbrev FO := Rho → (OV → Rho → Prop) → Prop
abbrev FT := Rho → (Bool → Rho → Prop) → Prop
def OVR (K : PySem.W.Frag) (G : Hp) (σ : L2.St) (v : V) : OV → Prop
  | .d x => Rq K G v x
  | .r i => σ[i]? = some (some v)
@[simp] def resT (ρ : Rho) : OV → Option SV
  | .d x => some (.dat x)
  | .r i => ρ[i]?.join
@[simp] def resD (ρ : Rho) (o : OV) : Option DD := (resT ρ o).map SV.data
@[simp] theorem resT_d (ρ : Rho) (x : DD) : resT ρ (.d x) = some (.dat x) := rfl
@[simp] theorem resT_r (ρ : Rho) (i : Nat) : resT ρ (.r i) = ρ[i]?.join := rfl
@[simp] theorem data_dat (d : DD) : (SV.dat d).data = d := by simp [SV.data]

def DE (K : PySem.W.Frag) (io : List Nat) (te : TE) (fe : FE) : Prop := ∀ (B : Bs) G H σ ρ fp (Qd : SV → Rho → Prop) (Q : VK), B.io = io → Rp K B G H σ ρ fp → fe ρ Qd →
  (∀ r ρ' v G' H' fp' fr, Nxt K B σ G H fp G' H' ρ' fp' → OT K G' H' v r fr → (∀ a ∈ fr, ¬ In fp' a) → (∀ a ∈ fr, H a = none ∨ In fp a) → Qd r ρ' → Q v H') → te σ H Q
def DV (K : PySem.W.Frag) (io : List Nat) (te : TE) (fv : FV) : Prop := ∀ (B : Bs) G H σ ρ fp (Qd : DD → Rho → Prop) (Q : VK), B.io = io → Rp K B G H σ ρ fp → fv ρ Qd →
  (∀ d ρ' v G' H' fp', Nxt K B σ G H fp G' H' ρ' fp' → Rq K G' v d → Qd d ρ' → Q v H') → te σ H Q
def DO (K : PySem.W.Frag) (io : List Nat) (te : TE) (fo : FO) : Prop := ∀ (B : Bs) G H σ ρ fp (Qd : OV → Rho → Prop) (Q : VK), B.io = io → Rp K B G H σ ρ fp → fo ρ Qd →
  (∀ o ρ' v G' H' fp', Nxt K B σ G H fp G' H' ρ' fp' → OVR K G' σ v o → Qd o ρ' → Q v H') → te σ H Q
def DT (K : PySem.W.Frag) (io : List Nat) (tt : TT) (ft : FT) : Prop := ∀ (B : Bs) G H σ ρ fp (Qd : Bool → Rho → Prop) (Q : Bool → Hp → Prop), B.io = io → Rp K B G H σ ρ fp → ft ρ Qd →
  (∀ b ρ' G' H' fp', Nxt K B σ G H fp G' H' ρ' fp' → Qd b ρ' → Q b H') → tt σ H Q
def PDe (X : Cx) (io : List Nat) (e : Expr) (fe : FE) : Prop := ∃ te, PE X e te ∧ DE X.K io te fe
def PDv (X : Cx) (io : List Nat) (e : Expr) (fv : FV) : Prop := ∃ te, PE X e te ∧ DV X.K io te fv
def PDo (X : Cx) (io : List Nat) (e : Expr) (fo : FO) : Prop := ∃ te, PE X e te ∧ DO X.K io te fo
def PDt (X : Cx) (io : List Nat) (e : Expr) (ft : FT) : Prop := ∃ tt, PT X e tt ∧ DT X.K io tt ft
@[simp] def eV (fe : FE) : FV := fun ρ Q => fe ρ fun r ρ' => Q r.data ρ'
@[simp] def vE (fv : FV) : FE := fun ρ Q => fv ρ fun d ρ' => Q (.dat d) ρ'
@[simp] def vO (fv : FV) : FO := fun ρ Q => fv ρ fun d ρ' => Q (.d d) ρ'
section
variable {X : Cx} {io : List Nat} {e a b c : Expr} {pos : Pos}
theorem ev {fe : FE} (h : PDe X io e fe) : PDv X io e (eV fe) := by
  obtain ⟨te, h1, h2⟩ := h
  refine ⟨te, h1, fun B G H σ ρ fp Qd Q hB R hf k => h2 B G H σ ρ fp _ Q hB R hf fun r ρ' v G' H' fp' fr n ot t1 t2 q => ?_⟩
  obtain ⟨n', rq⟩ := Nxt.sealed R n ot t1 t2
  exact k _ _ _ _ _ _ n' rq q
theorem ve {fv : FV} (h : PDv X io e fv) : PDe X io e (vE fv) := by
  obtain ⟨te, h1, h2⟩ := h
  exact ⟨te, h1, fun B G H σ ρ fp Qd Q hB R hf k => h2 B G H σ ρ fp _ Q hB R hf fun d ρ' v G' H' fp' n rq q => k _ _ _ _ _ _ [] n (.dat rq) (fun _ z => nomatch z) (fun _ z => nomatch z) q⟩
theorem vo {fv : FV} (h : PDv X io e fv) : PDo X io e (vO fv) := by
  obtain ⟨te, h1, h2⟩ := h
  exact ⟨te, h1, fun B G H σ ρ fp Qd Q hB R hf k => h2 B G H σ ρ fp _ Q hB R hf fun d ρ' v G' H' fp' n rq q => k (.d d) _ _ _ _ _ n rq q⟩
/-! names -/
@[simp] def fVar (i : Nat) : FV := fun ρ Q => ∃ d, ρ[i]? = some (some (.dat d)) ∧ Q d ρ
@[simp] def fRef (i : Nat) : FO := fun ρ Q => (∃ t, ρ[i]? = some (some t)) ∧ Q (.r i) ρ
theorem n_v {te : TE} (i : Nat) (h : PE X e te) (ht : te = tVar i) : PDv X io e (fVar i) := by
  subst ht
  refine ⟨_, h, fun B G H σ ρ fp Qd Q hB R hf k => ?_⟩
  obtain ⟨d, e1, q⟩ := hf
  obtain ⟨v, e2, ot⟩ := R.co.slot i _ e1
  exact ⟨v, e2, k d ρ v G H fp (Nxt.refl R) ot.dat_inv.1 q⟩
theorem n_o {te : TE} (i : Nat) (h : PE X e te) (ht : te = tVar i) : PDo X io e (fRef i) := by
  subst ht
  refine ⟨_, h, fun B G H σ ρ fp Qd Q hB R hf k => ?_⟩
  obtain ⟨⟨t, e1⟩, q⟩ := hf
  obtain ⟨v, e2, ot⟩ := R.co.slot i _ e1
  exact ⟨v, e2, k (.r i) ρ v G H fp (Nxt.refl R) e2 q⟩
/-- the slot's tree leaves the slot -/
@[simp] def fMove (io : List Nat) (i : Nat) : FE := fun ρ Q => ∃ t, ρ[i]? = some (some t) ∧ i ∉ io ∧ Q t (ρ.set i none)
theorem set_none_ne {ρ : Rho} {i j : Nat} {t : SV} (h : (ρ.set i none)[j]? = some (some t)) : j ≠ i ∧ ρ[j]? = some (some t) := by
  by_cases e : j = i
  · subst e
    rw [List.getElem?_set] at h
    simp at h
  · rw [List.getElem?_set_ne (Ne.symm e)] at h
    exact ⟨e, h⟩
theorem Rp.drop {K : PySem.W.Frag} {B : Bs} {G H : Hp} {σ : L2.St} {ρ : Rho} {fp : Nat → List Addr} (R : Rp K B G H σ ρ fp) (i : Nat) (hi : i ∉ B.io) : Rp K B G H σ (ρ.set i none) (fun j => if j = i then [] else fp j) := by
  refine ⟨⟨by rw [List.length_set]; exact R.co.len, R.co.sub, fun j t h => ?_, fun j h => ?_, fun j l a h1 h2 => ?_⟩, R.stp, fun a h => ?_, fun j m => ?_, R.lo⟩
  · obtain ⟨ne, h⟩ := set_none_ne h
    simp only [if_neg ne]
    exact R.co.slot j t h
  · by_cases e : j = i
    · exact if_pos e
    · simp only [if_neg e]
      exact R.co.nil j fun t q => h t (by rw [List.getElem?_set_ne (Ne.symm e)]; exact q)
  · by_cases e1 : j = i
    · simp [e1] at h1
    · by_cases e2 : l = i
      · simp [e2] at h2
      · simp only [if_neg e1] at h1
        simp only [if_neg e2] at h2
        exact R.co.dis j l a h1 h2
  · obtain ⟨j, m⟩ := h
    by_cases e1 : j = i
    · simp [e1] at m
    · simp only [if_neg e1] at m
      exact R.own a ⟨j, m⟩
  · obtain ⟨v, t, h1, h2, h3⟩ := R.io j m
    exact ⟨v, t, h1, h2, by rw [List.getElem?_set_ne (fun e : i = j => hi (e.symm ▸ m))]; exact h3⟩
theorem n_mv {te : TE} (i : Nat) (h : PE X e te) (ht : te = tVar i) : PDe X io e (fMove io i) := by
  subst ht
  refine ⟨_, h, fun B G H σ ρ fp Qd Q hB R hf k => ?_⟩
  obtain ⟨t, e1, ni, q⟩ := hf
  obtain ⟨v, e2, ot⟩ := R.co.slot i _ e1
  have inn : ∀ a, In (fun j => if j = i then [] else fp j) a → In fp a := fun a ⟨j, m⟩ => by
    by_cases e1 : j = i
    · simp [e1] at m
    · simp only [if_neg e1] at m
      exact ⟨j, m⟩
  refine ⟨v, e2, k t _ v G H _ (fp i) ⟨R.drop i (by rw [hB]; exact ni), Stp.refl G H, fun a h => .inl (inn a h)⟩ ot (fun a m ⟨j, m'⟩ => ?_) (fun a m => .inr ⟨i, m⟩) q⟩
  by_cases e1 : j = i
  · simp [e1] at m'
  · simp only [if_neg e1] at m'
    exact e1 (R.co.dis j i a m' m)
end
end DL

namespace DL
open PySem PySem.Spec PyProof.Rows L2

/-- a value told by itself -/
inductive Lit : V → DD → Prop
  | non : Lit .non .non
  | bl (b : Bool) : Lit (.bl b) (.bl b)
  | int (i : Int) : Lit (.int i) (.int i)
  | str (x : Str) : Lit (.str x) (.str x)
theorem Lit.rq {K : PySem.W.Frag} {G : Hp} {v : V} {d : DD} (h : Lit v d) : Rq K G v d := by
  cases h
  · exact .non
  · exact .bl _
  · exact .int _
  · exact .str _
section
variable {K : PySem.W.Frag} {B : Bs} {σ : L2.St} {G H G' H' : Hp} {ρ ρ' : Rho} {fp fp' : Nat → List Addr} {v : V} {o : OV}
theorem OVR.next (n : Nxt K B σ G H fp G' H' ρ' fp') (h : OVR K G σ v o) : OVR K G' σ v o := by
  cases o with
  | d x => exact Rq.mono n.st.ex h
  | r i => exact h
/-- what an operand is when it is looked at -/
theorem OVR.tree (R : Rp K B G H σ ρ fp) (h : OVR K G σ v o) {t : SV} (e : resT ρ o = some t) : ∃ f, OT K G H v t f ∧ (∀ a ∈ f, In fp a) := by
  cases o with
  | d x =>
    have : SV.dat x = t := Option.some.inj e
    subst this
    exact ⟨[], .dat h, fun _ z => nomatch z⟩
  | r i =>
    have e' : ρ[i]? = some (some t) := by
      simp only [resT_r] at e
      cases q : ρ[i]? with
      | none => rw [q] at e; cases e
      | some z => rw [q] at e; simp at e; rw [e]
    obtain ⟨u, e1, ot⟩ := R.co.slot i t e'
    have h' : σ[i]? = some (some v) := h
    rw [h'] at e1
    have : v = u := by injection e1 with z; injection z
    subst this
    exact ⟨fp i, ot, fun a m => ⟨i, m⟩⟩
theorem OVR.rqH (R : Rp K B G H σ ρ fp) (h : OVR K G σ v o) {d : DD} (e : resD ρ o = some d) : Rq K H v d := by
  unfold resD at e
  cases q : resT ρ o with
  | none => rw [q] at e; cases e
  | some t =>
    rw [q] at e
    have e' : t.data = d := Option.some.inj e
    obtain ⟨f, ot, _⟩ := h.tree R q
    rw [← e']
    exact ot.sealed R.co.sub fun _ _ _ z => z
end

section
variable {X : Cx} {io : List Nat} {e a b c : Expr} {pos : Pos}
/-! constants -/
@[simp] def fC (d : DD) : FV := fun ρ Q => Q d ρ
theorem c_of {v : V} {d : DD} (h : PE X e (tC v)) (l : Lit v d) : PDv X io e (fC d) :=
  ⟨_, h, fun B G H σ ρ fp Qd Q hB R hf k => k d ρ v G H fp (Nxt.refl R) l.rq hf⟩
theorem c_int {i : Int} {j : Nat} : PDv X io (.Constant (.int i) j pos) (fC (.int i)) := c_of pe_int (.int i)
theorem c_bl {i : Bool} {j : Nat} : PDv X io (.Constant (.bool i) j pos) (fC (.bl i)) := c_of pe_bl (.bl i)
theorem c_str {i : Str} {j : Nat} : PDv X io (.Constant (.str i) j pos) (fC (.str i)) := c_of pe_str (.str i)
theorem c_non {j : Nat} : PDv X io (.Constant .none j pos) (fC .non) := c_of pe_non .non
/-- a constant of the module -/
theorem c_glob {x : Str} {v : V} {d : DD} {u : Value} (hm : X.mg x = some u) (r : RelV v u) (l : Rq X.K (fun _ => none) v d) (hg : Gl X x := by rfl) (hd : (x == ("__debug__" : Str)) = false := by decide) : PDv X io (.Name x pos) (fC d) :=
  ⟨_, pe_glob hg hm r hd, fun B G H σ ρ fp Qd Q hB R hf k => k d ρ v G H fp (Nxt.refl R) (l.mono fun _ _ z => by cases z) hf⟩

/-! operations with a told value -/
def Op2 := DD → DD → (DD → Prop) → Prop
def ScR (K : PySem.W.Frag) (r : R2) (op : Op2) : Prop := ∀ H x y d e (P : DD → Prop) (Q : VK), Rq K H x d → Rq K H y e → op d e P → (∀ z w, P z → Lit w z → Q w H) → r x y H Q
@[simp] def fBin (op : Op2) (fa fb : FO) : FV := fun ρ Q => fa ρ fun x ρ1 => fb ρ1 fun y ρ2 => ∃ d e, resD ρ2 x = some d ∧ resD ρ2 y = some e ∧ op d e fun z => Q z ρ2
theorem dv_op {r : R2} {op : Op2} {ta tb : TE} {fa fb : FO} (hr : ScR X.K r op) (ha : DO X.K io ta fa) (hb : DO X.K io tb fb) : DV X.K io (tOp r ta tb) (fBin op fa fb) := by
  intro B G H σ ρ fp Qd Q hB R hf k
  refine ha B G H σ ρ fp _ _ hB R hf fun x ρ1 v1 G1 H1 fp1 n1 o1 hf => ?_
  refine hb B G1 H1 σ ρ1 fp1 _ _ hB n1.rp hf fun y ρ2 v2 G2 H2 fp2 n2 o2 ⟨d, e, e1, e2, q⟩ => ?_
  exact hr H2 v1 v2 d e _ Q ((o1.next n2).rqH n2.rp e1) (o2.rqH n2.rp e2) q fun z w q l => k z ρ2 w G2 H2 fp2 (n1.trans n2) l.rq q
theorem p_op {op : Operator} {r : R2} {f : Op2} {fa fb : FO} (ho : OpR X (binaryOp op) r) (hr : ScR X.K r f) (ha : PDo X io a fa) (hb : PDo X io b fb) : PDv X io (.BinOp a op b pos) (fBin f fa fb) := by
  obtain ⟨ta, a1, a2⟩ := ha
  obtain ⟨tb, b1, b2⟩ := hb
  exact ⟨_, pe_op ho a1 b1, dv_op hr a2 b2⟩
theorem p_cmp {op : CmpOp} {r : R2} {f : Op2} {fa fb : FO} (ho : OpR X (compareOp op) r) (hr : ScR X.K r f) (hm : behindInMarks op b = false) (ha : PDo X io a fa) (hb : PDo X io b fb) : PDv X io (.Compare a [op] [b] pos) (fBin f fa fb) := by
  obtain ⟨ta, a1, a2⟩ := ha
  obtain ⟨tb, b1, b2⟩ := hb
  exact ⟨_, pe_cmpR ho a1 b1 hm, dv_op hr a2 b2⟩
/-- a value as a test -/
@[simp] def fTst (fv : FV) : FT := fun ρ Q => fv ρ fun d ρ' => ∃ b, d = .bl b ∧ Q b ρ'
theorem Rq.bl_inv {K : PySem.W.Frag} {G : Hp} {v : V} {b : Bool} (h : Rq K G v (.bl b)) : v = .bl b := by cases h; rfl
theorem Rq.int_inv {K : PySem.W.Frag} {G : Hp} {v : V} {b : Int} (h : Rq K G v (.int b)) : v = .int b := by cases h; rfl
theorem Rq.str_inv {K : PySem.W.Frag} {G : Hp} {v : V} {b : Str} (h : Rq K G v (.str b)) : v = .str b := by cases h; rfl
theorem Rq.non_inv {K : PySem.W.Frag} {G : Hp} {v : V} (h : Rq K G v .non) : v = .non := by cases h; rfl
theorem Rq.opq_inv {K : PySem.W.Frag} {G : Hp} {v w : V} (h : Rq K G v (.opq w)) : v = w := by cases h; rfl
theorem Rq.lst_inv {K : PySem.W.Frag} {G : Hp} {v : V} {ds : List DD} (h : Rq K G v (.lst ds)) : ∃ a xs, v = .ref a ∧ Rd G a (.lst xs) ∧ RqA K G xs ds := by cases h with | lst h r => exact ⟨_, _, rfl, h, r⟩
theorem Rq.tup_inv {K : PySem.W.Frag} {G : Hp} {v : V} {ds : List DD} (h : Rq K G v (.tup ds)) : ∃ a xs, v = .ref a ∧ SqT K G a xs ∧ RqA K G xs ds := by cases h with | tup h r => exact ⟨_, _, rfl, h, r⟩
theorem Rq.obj_inv {K : PySem.W.Frag} {G : Hp} {v : V} {C : Addr} {ds : List (Str × DD)} (h : Rq K G v (.obj C ds)) : ∃ a dx fs, v = .ref a ∧ G a = some (.ins C dx fs) ∧ RqF K G fs ds := by cases h with | obj h r => exact ⟨_, _, _, rfl, h, r⟩
theorem dt_B {te : TE} {fv : FV} (h : DV X.K io te fv) : DT X.K io (tB te) (fTst fv) := by
  intro B G H σ ρ fp Qd Q hB R hf k
  refine h B G H σ ρ fp _ _ hB R hf fun d ρ' v G' H' fp' n r ⟨b, e, q⟩ => ?_
  subst e
  exact ⟨b, r.bl_inv, k b ρ' G' H' fp' n q⟩
theorem dt_T {te : TE} {fv : FV} (h : DV X.K io te fv) : DT X.K io (tTest te) (fTst fv) := by
  intro B G H σ ρ fp Qd Q hB R hf k
  refine h B G H σ ρ fp _ _ hB R hf fun d ρ' v G' H' fp' n r ⟨b, e, q⟩ => ?_
  subst e
  exact ⟨b, r.bl_inv, k b ρ' G' H' fp' n q⟩
theorem t_cmp {op : CmpOp} {r : R2} {f : Op2} {fa fb : FO} (ho : OpR X (compareOp op) r) (hr : ScR X.K r f) (hm : behindInMarks op b = false) (ha : PDo X io a fa) (hb : PDo X io b fb) : PDt X io (.Compare a [op] [b] pos) (fTst (fBin f fa fb)) := by
  obtain ⟨ta, a1, a2⟩ := ha
  obtain ⟨tb, b1, b2⟩ := hb
  exact ⟨_, pt_cmpR ho a1 b1 hm, dt_T (dv_op hr a2 b2)⟩
theorem t_val {fv : FV} (h : PDv X io e fv) (he : ∀ whole, isTrue e X.env whole = (do let v ← whole; standAt e.pos; holding [v] (truthy v)) := by intro _; rfl) : PDt X io e (fTst fv) := by
  obtain ⟨te, h1, h2⟩ := h
  exact ⟨_, pt_val h1 he, dt_B h2⟩
/-! and, or, not -/
structure PDw (X : Cx) (io : List Nat) (e : Expr) (ft : FT) : Prop where
  h : ∃ tt, PW X e tt ∧ DT X.K io tt ft
@[simp] def fAnd (f g : FT) : FT := fun ρ Q => f ρ fun c ρ1 => if c = true then g ρ1 Q else Q false ρ1
@[simp] def fOr (f g : FT) : FT := fun ρ Q => f ρ fun c ρ1 => if c = true then Q true ρ1 else g ρ1 Q
@[simp] def fNot (f : FT) : FT := fun ρ Q => f ρ fun c ρ1 => Q (!c) ρ1
variable {rest : List Expr} {f g : FT}
theorem w_and1 (h : PDt X io a f) : PDw X io (.BoolOp .And [a] pos) f := let ⟨_, h1, h2⟩ := h; ⟨_, pw_and1 h1, h2⟩
theorem w_or1 (h : PDt X io a f) : PDw X io (.BoolOp .Or [a] pos) f := let ⟨_, h1, h2⟩ := h; ⟨_, pw_or1 h1, h2⟩
theorem dt_and {t u : TT} (h1 : DT X.K io t f) (h2 : DT X.K io u g) : DT X.K io (tAnd t u) (fAnd f g) := by
  intro B G H σ ρ fp Qd Q hB R hf k
  refine h1 B G H σ ρ fp _ _ hB R hf fun c ρ1 G1 H1 fp1 n1 q => ?_
  cases c with
  | true => exact h2 B G1 H1 σ ρ1 fp1 Qd Q hB n1.rp q fun b ρ2 G2 H2 fp2 n2 q => k b ρ2 G2 H2 fp2 (n1.trans n2) q
  | false => exact k false ρ1 G1 H1 fp1 n1 q
theorem dt_or {t u : TT} (h1 : DT X.K io t f) (h2 : DT X.K io u g) : DT X.K io (tOr t u) (fOr f g) := by
  intro B G H σ ρ fp Qd Q hB R hf k
  refine h1 B G H σ ρ fp _ _ hB R hf fun c ρ1 G1 H1 fp1 n1 q => ?_
  cases c with
  | true => exact k true ρ1 G1 H1 fp1 n1 q
  | false => exact h2 B G1 H1 σ ρ1 fp1 Qd Q hB n1.rp q fun b ρ2 G2 H2 fp2 n2 q => k b ρ2 G2 H2 fp2 (n1.trans n2) q
theorem w_and (h1 : PDt X io a f) (h2 : PDw X io (.BoolOp .And (b :: rest) pos) g) : PDw X io (.BoolOp .And (a :: b :: rest) pos) (fAnd f g) := by
  obtain ⟨_, a1, a2⟩ := h1
  obtain ⟨_, b1, b2⟩ := h2.h
  exact ⟨_, pw_and a1 b1, dt_and a2 b2⟩
theorem w_or (h1 : PDt X io a f) (h2 : PDw X io (.BoolOp .Or (b :: rest) pos) g) : PDw X io (.BoolOp .Or (a :: b :: rest) pos) (fOr f g) := by
  obtain ⟨_, a1, a2⟩ := h1
  obtain ⟨_, b1, b2⟩ := h2.h
  exact ⟨_, pw_or a1 b1, dt_or a2 b2⟩
theorem t_w (h : PDw X io e f) : PDt X io e f := let ⟨_, h1, h2⟩ := h.h; ⟨_, h1.pt, h2⟩
theorem t_not (h : PDt X io a f) : PDt X io (.UnaryOp .Not a pos) (fNot f) := by
  obtain ⟨_, h1, h2⟩ := h
  exact ⟨_, pt_not h1, fun B G H σ ρ fp Qd Q hB R hf k => h2 B G H σ ρ fp _ _ hB R hf fun b ρ' G' H' fp' n q => k (!b) ρ' G' H' fp' n q⟩
/-- .. as values: all bools -/
@[simp] def fAndV (fa fb : FV) : FV := fun ρ Q => fa ρ fun d ρ1 => ∃ c, d = .bl c ∧ if c = true then fb ρ1 Q else Q (.bl false) ρ1
@[simp] def fOrV (fa fb : FV) : FV := fun ρ Q => fa ρ fun d ρ1 => ∃ c, d = .bl c ∧ if c = true then Q (.bl true) ρ1 else fb ρ1 Q
@[simp] def fNotV (fa : FV) : FV := fun ρ Q => fa ρ fun d ρ1 => ∃ c, d = .bl c ∧ Q (.bl (!c)) ρ1
variable {fa fb : FV}
theorem v_one {op : BoolOp} (h : PDv X io a fa) : PDv X io (.BoolOp op [a] pos) fa := let ⟨_, h1, h2⟩ := h; ⟨_, pe_one h1, h2⟩
theorem v_and (h1 : PDv X io a fa) (h2 : PDv X io (.BoolOp .And (b :: rest) pos) fb) : PDv X io (.BoolOp .And (a :: b :: rest) pos) (fAndV fa fb) := by
  obtain ⟨_, a1, a2⟩ := h1
  obtain ⟨_, b1, b2⟩ := h2
  refine ⟨_, pe_and a1 b1, fun B G H σ ρ fp Qd Q hB R hf k => ?_⟩
  refine a2 B G H σ ρ fp _ _ hB R hf fun d ρ1 v G1 H1 fp1 n1 r ⟨c, e, q⟩ => ?_
  subst e
  refine ⟨c, r.bl_inv, ?_⟩
  cases c with
  | true => exact b2 B G1 H1 σ ρ1 fp1 Qd Q hB n1.rp q fun d ρ2 v G2 H2 fp2 n2 r q => k d ρ2 v G2 H2 fp2 (n1.trans n2) r q
  | false => exact k _ ρ1 _ G1 H1 fp1 n1 (.bl false) q
theorem v_or (h1 : PDv X io a fa) (h2 : PDv X io (.BoolOp .Or (b :: rest) pos) fb) : PDv X io (.BoolOp .Or (a :: b :: rest) pos) (fOrV fa fb) := by
  obtain ⟨_, a1, a2⟩ := h1
  obtain ⟨_, b1, b2⟩ := h2
  refine ⟨_, pe_or a1 b1, fun B G H σ ρ fp Qd Q hB R hf k => ?_⟩
  refine a2 B G H σ ρ fp _ _ hB R hf fun d ρ1 v G1 H1 fp1 n1 r ⟨c, e, q⟩ => ?_
  subst e
  refine ⟨c, r.bl_inv, ?_⟩
  cases c with
  | true => exact k _ ρ1 _ G1 H1 fp1 n1 (.bl true) q
  | false => exact b2 B G1 H1 σ ρ1 fp1 Qd Q hB n1.rp q fun d ρ2 v G2 H2 fp2 n2 r q => k d ρ2 v G2 H2 fp2 (n1.trans n2) r q
theorem v_not (h : PDv X io a fa) : PDv X io (.UnaryOp .Not a pos) (fNotV fa) := by
  obtain ⟨_, h1, h2⟩ := h
  refine ⟨_, pe_not h1, fun B G H σ ρ fp Qd Q hB R hf k => ?_⟩
  refine h2 B G H σ ρ fp _ _ hB R hf fun d ρ' v G' H' fp' n r ⟨c, e, q⟩ => ?_
  subst e
  exact ⟨c, r.bl_inv, k _ ρ' _ G' H' fp' n (.bl _) q⟩
/-- a if t else b -/
@[simp] def fIfE (ft : FT) (fa fb : FE) : FE := fun ρ Q => ft ρ fun c ρ1 => if c = true then fa ρ1 Q else fb ρ1 Q
theorem e_if {ft : FT} {fa fb : FE} (hc : PDt X io c ft) (ha : PDe X io a fa) (hb : PDe X io b fb) : PDe X io (.IfExp c a b pos) (fIfE ft fa fb) := by
  obtain ⟨_, c1, c2⟩ := hc
  obtain ⟨_, a1, a2⟩ := ha
  obtain ⟨_, b1, b2⟩ := hb
  refine ⟨_, pe_ifExp c1 a1 b1, fun B G H σ ρ fp Qd Q hB R hf k => ?_⟩
  refine c2 B G H σ ρ fp _ _ hB R hf fun c ρ1 G1 H1 fp1 n1 q => ?_
  have back : ∀ {fr : List Addr}, (∀ a ∈ fr, H1 a = none ∨ In fp1 a) → ∀ a ∈ fr, H a = none ∨ In fp a := fun h a m => (h a m).elim (fun z => by
    by_cases q : In fp a
    · exact .inr q
    · exact .inl (n1.st.fresh q z)) fun z => (n1.inn a z).symm
  cases c with
  | true => exact a2 B G1 H1 σ ρ1 fp1 _ Q hB n1.rp q fun r ρ2 v G2 H2 fp2 fr n2 ot t1 t2 q => k r ρ2 v G2 H2 fp2 fr (n1.trans n2) ot t1 (back t2) q
  | false => exact b2 B G1 H1 σ ρ1 fp1 _ Q hB n1.rp q fun r ρ2 v G2 H2 fp2 fr n2 ot t1 t2 q => k r ρ2 v G2 H2 fp2 fr (n1.trans n2) ot t1 (back t2) q
end
end DL

namespace DL
open PySem PySem.Spec PyProof.Rows L2
section
variable {X : Cx} {io : List Nat} {e a b c : Expr} {pos : Pos} {K : PySem.W.Frag}
/-! ints -/
@[simp] def opI (C : Int → Int → Prop) (g : Int → Int → DD) : Op2 := fun d e P => ∃ i j, d = .int i ∧ e = .int j ∧ C i j ∧ P (g i j)
@[simp] def opI0 (g : Int → Int → DD) : Op2 := fun d e P => ∃ i j, d = .int i ∧ e = .int j ∧ P (g i j)
theorem sc_I {C : Int → Int → Prop} {g : Int → Int → Int} : ScR K (rI C fun i j => .int (g i j)) (opI C fun i j => .int (g i j)) := fun H x y d e P Q hx hy h k => by
  obtain ⟨i, j, rfl, rfl, hc, p⟩ := h
  exact ⟨i, j, hx.int_inv, hy.int_inv, hc, k _ _ p (.int _)⟩
theorem sc_I0 {g : Int → Int → Int} : ScR K (rI0 fun i j => .int (g i j)) (opI0 fun i j => .int (g i j)) := fun H x y d e P Q hx hy h k => by
  obtain ⟨i, j, rfl, rfl, p⟩ := h
  exact ⟨i, j, hx.int_inv, hy.int_inv, k _ _ p (.int _)⟩
theorem sc_B0 {g : Int → Int → Bool} : ScR K (rI0 fun i j => .bl (g i j)) (opI0 fun i j => .bl (g i j)) := fun H x y d e P Q hx hy h k => by
  obtain ⟨i, j, rfl, rfl, p⟩ := h
  exact ⟨i, j, hx.int_inv, hy.int_inv, k _ _ p (.bl _)⟩
variable {fa fb : FO}
abbrev oAdd : Op2 := opI0 fun i j => .int (i + j)
abbrev oSub : Op2 := opI0 fun i j => .int (i - j)
abbrev oMul : Op2 := opI IntMulOk fun i j => .int (i * j)
abbrev oDiv : Op2 := opI (fun i j => j ≠ 0 ∧ Builtin.divisionGoesByPylong i j = false) fun i j => .int (i.fdiv j)
abbrev oMod : Op2 := opI (fun _ j => j ≠ 0) fun i j => .int (i.fmod j)
abbrev oPow : Op2 := opI (fun i j => 0 ≤ j ∧ (Builtin.Int.intBits i : Int) * j ≤ 2 ^ 27) fun i j => .int (i ^ j.toNat)
abbrev oLt : Op2 := opI0 fun i j => .bl (decide (i < j))
abbrev oLe : Op2 := opI0 fun i j => .bl (decide (i ≤ j))
abbrev oGt : Op2 := opI0 fun i j => .bl (decide (j < i))
abbrev oGe : Op2 := opI0 fun i j => .bl (decide (j ≤ i))
abbrev oEqI : Op2 := opI0 fun i j => .bl (decide (i = j))
abbrev oNeI : Op2 := opI0 fun i j => .bl (!decide (i = j))
theorem p_add (ha : PDo X io a fa) (hb : PDo X io b fb) : PDv X io (.BinOp a .Add b pos) (fBin oAdd fa fb) := p_op op_add sc_I0 ha hb
theorem p_sub (ha : PDo X io a fa) (hb : PDo X io b fb) : PDv X io (.BinOp a .Sub b pos) (fBin oSub fa fb) := p_op op_sub sc_I0 ha hb
theorem p_mul (ha : PDo X io a fa) (hb : PDo X io b fb) : PDv X io (.BinOp a .Mult b pos) (fBin oMul fa fb) := p_op (L2.opI fun _ _ _ _ _ _ _ hc q => mul_int q hc) sc_I ha hb
theorem p_div (ha : PDo X io a fa) (hb : PDo X io b fb) : PDv X io (.BinOp a .FloorDiv b pos) (fBin oDiv fa fb) := p_op (L2.opI fun _ _ _ _ _ _ _ hc q => floordiv_int hc.1 q (.inl hc.2)) sc_I ha hb
theorem p_mod (ha : PDo X io a fa) (hb : PDo X io b fb) : PDv X io (.BinOp a .Mod b pos) (fBin oMod fa fb) := p_op op_modN sc_I ha hb
theorem p_pow (ha : PDo X io a fa) (hb : PDo X io b fb) : PDv X io (.BinOp a .Pow b pos) (fBin oPow fa fb) := p_op (L2.opI fun _ _ _ _ _ _ _ hc q => pow_int hc.1 hc.2 q) sc_I ha hb
theorem p_lt (ha : PDo X io a fa) (hb : PDo X io b fb) : PDv X io (.Compare a [.Lt] [b] pos) (fBin oLt fa fb) := p_cmp op_lt sc_B0 (nomark _) ha hb
theorem p_le (ha : PDo X io a fa) (hb : PDo X io b fb) : PDv X io (.Compare a [.LtE] [b] pos) (fBin oLe fa fb) := p_cmp op_le sc_B0 (nomark _) ha hb
theorem p_gt (ha : PDo X io a fa) (hb : PDo X io b fb) : PDv X io (.Compare a [.Gt] [b] pos) (fBin oGt fa fb) := p_cmp op_gt sc_B0 (nomark _) ha hb
theorem p_ge (ha : PDo X io a fa) (hb : PDo X io b fb) : PDv X io (.Compare a [.GtE] [b] pos) (fBin oGe fa fb) := p_cmp op_ge sc_B0 (nomark _) ha hb
theorem q_lt (ha : PDo X io a fa) (hb : PDo X io b fb) : PDt X io (.Compare a [.Lt] [b] pos) (fTst (fBin oLt fa fb)) := t_cmp op_lt sc_B0 (nomark _) ha hb
theorem q_le (ha : PDo X io a fa) (hb : PDo X io b fb) : PDt X io (.Compare a [.LtE] [b] pos) (fTst (fBin oLe fa fb)) := t_cmp op_le sc_B0 (nomark _) ha hb
theorem q_gt (ha : PDo X io a fa) (hb : PDo X io b fb) : PDt X io (.Compare a [.Gt] [b] pos) (fTst (fBin oGt fa fb)) := t_cmp op_gt sc_B0 (nomark _) ha hb
theorem q_ge (ha : PDo X io a fa) (hb : PDo X io b fb) : PDt X io (.Compare a [.GtE] [b] pos) (fTst (fBin oGe fa fb)) := t_cmp op_ge sc_B0 (nomark _) ha hb

/-! == of data -/
/-- == of data -/
def eqD (d e : DD) : Bool := PyData.eqv d.py e.py
def okD (d : DD) : Bool := d.pure && SeqAt.shaped d.py
@[simp] def oEq : Op2 := fun d e P => okD d = true ∧ okD e = true ∧ P (.bl (eqD d e))
@[simp] def oNe : Op2 := fun d e P => okD d = true ∧ okD e = true ∧ P (.bl (!eqD d e))
theorem okD_of {d : DD} (h : okD d = true) : d.pure = true ∧ SeqAt.shaped d.py = true := Bool.and_eq_true_iff.mp h
theorem sc_eq : ScR K (rEqD K) oEq := fun H x y d e P Q hx hy h k => by
  obtain ⟨h1, h2, p⟩ := h
  exact ⟨_, _, hx.dp (okD_of h1).1, hy.dp (okD_of h2).1, (okD_of h1).2, (okD_of h2).2, k _ _ p (.bl _)⟩
theorem sc_ne : ScR K (rNeD K) oNe := fun H x y d e P Q hx hy h k => by
  obtain ⟨h1, h2, p⟩ := h
  exact ⟨_, _, hx.dp (okD_of h1).1, hy.dp (okD_of h2).1, (okD_of h1).2, (okD_of h2).2, k _ _ p (.bl _)⟩
theorem p_eq {k : Nat} (hr : Room k X.A) (ha : PDo X io a fa) (hb : PDo X io b fb) : PDv X io (.Compare a [.Eq] [b] pos) (fBin oEq fa fb) := p_cmp (op_eqD hr.units) sc_eq (nomark _) ha hb
theorem p_ne {k : Nat} (hr : Room k X.A) (ha : PDo X io a fa) (hb : PDo X io b fb) : PDv X io (.Compare a [.NotEq] [b] pos) (fBin oNe fa fb) := p_cmp (op_neD hr.units) sc_ne (nomark _) ha hb
theorem q_eq {k : Nat} (hr : Room k X.A) (ha : PDo X io a fa) (hb : PDo X io b fb) : PDt X io (.Compare a [.Eq] [b] pos) (fTst (fBin oEq fa fb)) := t_cmp (op_eqD hr.units) sc_eq (nomark _) ha hb
theorem q_ne {k : Nat} (hr : Room k X.A) (ha : PDo X io a fa) (hb : PDo X io b fb) : PDt X io (.Compare a [.NotEq] [b] pos) (fTst (fBin oNe fa fb)) := t_cmp (op_neD hr.units) sc_ne (nomark _) ha hb
/-! is None -/
def isN : DD → Bool
  | .non => true
  | _ => false
/-- (an opaque value might be None) -/
def tld : DD → Bool
  | .opq _ => false
  | .at_ _ _ => false
  | _ => true
@[simp] def oIsN : Op2 := fun d e P => e = .non ∧ tld d = true ∧ P (.bl (isN d))
@[simp] def oNotN : Op2 := fun d e P => e = .non ∧ tld d = true ∧ P (.bl (!isN d))
theorem isN_of {G : Hp} {x : V} {d : DD} (h : Rq K G x d) (t : tld d = true) : decide (x = .non) = isN d := by
  cases h <;> first | rfl | (simp [isN]; done) | cases t
theorem sc_isN : ScR K (fun x y H Q => y = .non ∧ Q (.bl (decide (x = .non))) H) oIsN := fun H x y d e P Q hx hy h k => by
  obtain ⟨rfl, t, p⟩ := h
  exact ⟨hy.non_inv, by rw [isN_of hx t]; exact k _ _ p (.bl _)⟩
theorem sc_notN : ScR K (fun x y H Q => y = .non ∧ Q (.bl (!decide (x = .non))) H) oNotN := fun H x y d e P Q hx hy h k => by
  obtain ⟨rfl, t, p⟩ := h
  exact ⟨hy.non_inv, by rw [isN_of hx t]; exact k _ _ p (.bl _)⟩
theorem p_isN (ha : PDo X io a fa) (hb : PDo X io b fb) : PDv X io (.Compare a [.Is] [b] pos) (fBin oIsN fa fb) := p_cmp op_isN sc_isN (nomark _) ha hb
theorem p_notN (ha : PDo X io a fa) (hb : PDo X io b fb) : PDv X io (.Compare a [.IsNot] [b] pos) (fBin oNotN fa fb) := p_cmp op_notN sc_notN (nomark _) ha hb
theorem q_isN (ha : PDo X io a fa) (hb : PDo X io b fb) : PDt X io (.Compare a [.Is] [b] pos) (fTst (fBin oIsN fa fb)) := t_cmp op_isN sc_isN (nomark _) ha hb
theorem q_notN (ha : PDo X io a fa) (hb : PDo X io b fb) : PDt X io (.Compare a [.IsNot] [b] pos) (fTst (fBin oNotN fa fb)) := t_cmp op_notN sc_notN (nomark _) ha hb
/-! - -/
def Op1 := DD → (DD → Prop) → Prop
def ScU (K : PySem.W.Frag) (r : V → Hp → VK → Prop) (op : Op1) : Prop := ∀ H x d (P : DD → Prop) (Q : VK), Rq K H x d → op d P → (∀ z w, P z → Lit w z → Q w H) → r x H Q
@[simp] def fUn (op : Op1) (fa : FO) : FV := fun ρ Q => fa ρ fun x ρ1 => ∃ d, resD ρ1 x = some d ∧ op d fun z => Q z ρ1
theorem dv_un {r : V → Hp → VK → Prop} {op : Op1} {ta : TE} (hr : ScU X.K r op) (ha : DO X.K io ta fa) : DV X.K io (tUn r ta) (fUn op fa) := by
  intro B G H σ ρ fp Qd Q hB R hf k
  refine ha B G H σ ρ fp _ _ hB R hf fun x ρ1 v1 G1 H1 fp1 n1 o1 ⟨d, e1, q⟩ => ?_
  exact hr H1 v1 d _ Q (o1.rqH n1.rp e1) q fun z w q l => k z ρ1 w G1 H1 fp1 n1 l.rq q
@[simp] def oNeg : Op1 := fun d P => ∃ i, d = .int i ∧ P (.int (-i))
theorem p_neg (ha : PDo X io a fa) : PDv X io (.UnaryOp .USub a pos) (fUn oNeg fa) := by
  obtain ⟨ta, a1, a2⟩ := ha
  refine ⟨_, pe_un un_neg a1, dv_un (fun H x d P Q hx h k => ?_) a2⟩
  obtain ⟨i, rfl, p⟩ := h
  exact ⟨i, hx.int_inv, k _ _ p (.int _)⟩
/-! chains a < b < c -/
def fChain (op op' : Op2) (fa fb fc : FO) : FV := fun ρ Q => fa ρ fun x ρ1 => fb ρ1 fun y ρ2 => ∃ d e, resD ρ2 x = some d ∧ resD ρ2 y = some e ∧ op d e fun z => ∃ k, z = .bl k ∧
  if k = true then fc ρ2 fun w ρ3 => ∃ e' g, resD ρ3 y = some e' ∧ resD ρ3 w = some g ∧ op' e' g fun z => Q z ρ3 else Q (.bl false) ρ2

/-! arguments of built-ins -/
abbrev FOs := Rho → (List OV → Rho → Prop) → Prop
def DOs (K : PySem.W.Frag) (io : List Nat) (ta : TA) (fos : FOs) : Prop := ∀ (B : Bs) G H σ ρ fp (Qd : List OV → Rho → Prop) (Q : List V → Hp → Prop), B.io = io → Rp K B G H σ ρ fp → fos ρ Qd →
  (∀ os ρ' vs G' H' fp', Nxt K B σ G H fp G' H' ρ' fp' → Paired (OVR K G' σ) vs os → Qd os ρ' → Q vs H') → ta σ H Q
def PDos (X : Cx) (io : List Nat) (es : List Expr) (fos : FOs) : Prop := ∃ ta, PA X es ta ∧ DOs X.K io ta fos
@[simp] def fNil : FOs := fun ρ Q => Q [] ρ
@[simp] def fCons (fa : FO) (fr : FOs) : FOs := fun ρ Q => fa ρ fun x ρ1 => fr ρ1 fun xs ρ2 => Q (x :: xs) ρ2
theorem os_nil : PDos X io [] fNil := ⟨_, pa_nil, fun B G H σ ρ fp Qd Q hB R hf k => k [] ρ [] G H fp (Nxt.refl R) .nil hf⟩
theorem os_cons {es : List Expr} {fr : FOs} (ha : PDo X io e fa) (hr : PDos X io es fr) (hs : starEach (e :: es) X.env = (false, eval e X.env) :: starEach es X.env := by rfl) : PDos X io (e :: es) (fCons fa fr) := by
  obtain ⟨_, a1, a2⟩ := ha
  obtain ⟨_, b1, b2⟩ := hr
  refine ⟨_, pa_cons a1 b1 hs, fun B G H σ ρ fp Qd Q hB R hf k => ?_⟩
  refine a2 B G H σ ρ fp _ _ hB R hf fun x ρ1 v1 G1 H1 fp1 n1 o1 hf => ?_
  refine b2 B G1 H1 σ ρ1 fp1 _ _ hB n1.rp hf fun xs ρ2 vs G2 H2 fp2 n2 os q => ?_
  exact k _ ρ2 _ G2 H2 fp2 (n1.trans n2) (.cons (o1.next n2) os) q
@[simp] def resDs (ρ : Rho) : List OV → Option (List DD)
  | [] => some []
  | o :: r => match resD ρ o, resDs ρ r with
    | some d, some ds => some (d :: ds)
    | _, _ => none
theorem Paired.rqH {B : Bs} {σ : L2.St} {G H : Hp} {ρ : Rho} {fp : Nat → List Addr} (R : Rp K B G H σ ρ fp) : ∀ {vs : List V} {os : List OV} {ds : List DD}, Paired (OVR K G σ) vs os → resDs ρ os = some ds → RqA K H vs ds
  | _, _, _, .nil, e => by
    have : [] = _ := Option.some.inj e
    subst this
    exact .nil
  | _, _, _, .cons (b := o) (l₂ := os) r t, e => by
    unfold resDs at e
    cases q1 : resD ρ o with
    | none => rw [q1] at e; cases e
    | some d =>
      cases q2 : resDs ρ os with
      | none => rw [q1, q2] at e; cases e
      | some ds =>
        rw [q1, q2] at e
        have := Option.some.inj e
        subst this
        exact .cons (r.rqH R q1) (Paired.rqH R t q2)
def OpN := List DD → (DD → Prop) → Prop
def ScC (K : PySem.W.Frag) (r : List V → Hp → VK → Prop) (op : OpN) : Prop := ∀ H xs ds (P : DD → Prop) (Q : VK), RqA K H xs ds → op ds P → (∀ z w, P z → Lit w z → Q w H) → r xs H Q
@[simp] def fCB (op : OpN) (fos : FOs) : FV := fun ρ Q => fos ρ fun os ρ1 => ∃ ds, resDs ρ1 os = some ds ∧ op ds fun z => Q z ρ1
theorem dv_cb {r : List V → Hp → VK → Prop} {op : OpN} {ta : TA} {fos : FOs} (hr : ScC X.K r op) (ha : DOs X.K io ta fos) : DV X.K io (tCB r ta) (fCB op fos) := by
  intro B G H σ ρ fp Qd Q hB R hf k
  refine ha B G H σ ρ fp _ _ hB R hf fun os ρ1 vs G1 H1 fp1 n1 o1 ⟨ds, e1, q⟩ => ?_
  exact hr H1 vs ds _ Q (Paired.rqH n1.rp o1 e1) q fun z w q l => k z ρ1 w G1 H1 fp1 n1 l.rq q
section
variable {x : Str} {p : Pos} {es : List Expr} {fos : FOs} {id T : String} {r : List V → Hp → VK → Prop} {op : OpN}
theorem p_cb (hc : CallR X (.builtin id) r) (hs : ScC X.K r op) (hm : X.mg x = none) (hv : bootBuiltins x = some (.builtin id)) (ha : PDos X io (e :: es) fos) (hg : Gl X x := by rfl) (hn : x ≠ "__name__" := by decide) (hdb : (x == ("__debug__" : Str)) = false := by decide)
    (he : starEach (e :: es) X.env = (false, eval e X.env) :: starEach es X.env := by rfl) (hpl : (backTo pos (starEach es X.env)).any (·.1) = false := by rfl) : PDv X io (.Call (.Name x p) (e :: es) [] pos) (fCB op fos) := by
  obtain ⟨_, a1, a2⟩ := ha
  exact ⟨_, pe_callB hc hg hm hv a1 hn hdb he hpl, dv_cb hs a2⟩
theorem p_ct (hc : CallR X (.type T) r) (hs : ScC X.K r op) (hm : X.mg x = none) (hv : bootBuiltins x = some (.type T)) (ha : PDos X io (e :: es) fos) (hg : Gl X x := by rfl) (hn : x ≠ "__name__" := by decide) (hdb : (x == ("__debug__" : Str)) = false := by decide)
    (he : starEach (e :: es) X.env = (false, eval e X.env) :: starEach es X.env := by rfl) (hpl : (backTo pos (starEach es X.env)).any (·.1) = false := by rfl) : PDv X io (.Call (.Name x p) (e :: es) [] pos) (fCB op fos) := by
  obtain ⟨_, a1, a2⟩ := ha
  exact ⟨_, pe_callTy hc hg hm hv a1 hn hdb he hpl, dv_cb hs a2⟩
end
theorem RqA.one {G : Hp} {xs : List V} {d : DD} (h : RqA K G xs [d]) : ∃ x, xs = [x] ∧ Rq K G x d := by
  cases h with
  | cons a b => cases b; exact ⟨_, rfl, a⟩
theorem RqA.two {G : Hp} {xs : List V} {d e : DD} (h : RqA K G xs [d, e]) : ∃ x y, xs = [x, y] ∧ Rq K G x d ∧ Rq K G y e := by
  cases h with
  | cons a b => cases b with | cons b c => cases c; exact ⟨_, _, rfl, a, b⟩
section
variable {p : Pos} {fos : FOs}
@[simp] def oLen : OpN := fun ds P => (∃ l, (ds = [.lst l] ∨ ds = [.klst l]) ∧ P (.int l.length)) ∨ (∃ l, ds = [.tup l] ∧ P (.int l.length)) ∨ ∃ x : Str, ds = [.str x] ∧ x.length ≤ sizeLine ∧ P (.int x.length)
theorem p_len (hm : X.mg "len" = none) (ha : PDos X io [e] fos) (hg : Gl X "len" := by rfl) (he : starEach [e] X.env = (false, eval e X.env) :: starEach [] X.env := by rfl) : PDv X io (.Call (.Name "len" p) [e] [] pos) (fCB oLen fos) :=
  p_cb (call_len_seq.or call_len_str) (fun H xs ds P Q hx h k => by
    rcases h with ⟨l, rfl | rfl, q⟩ | ⟨l, rfl, q⟩ | ⟨x, rfl, z, q⟩
    · obtain ⟨x, rfl, r⟩ := hx.one
      obtain ⟨a, ys, rfl, h, r⟩ := r.lst_inv
      exact .inl ⟨a, ys, rfl, .inl (.inl h), by rw [r.length]; exact k _ _ q (.int _)⟩
    · obtain ⟨x, rfl, r⟩ := hx.one
      cases r with
      | klst h r => exact .inl ⟨_, _, rfl, .inl (Sub.l (G := fun _ => none) (fun _ _ z => by cases z) h), by rw [r.length]; exact k _ _ q (.int _)⟩
    · obtain ⟨x, rfl, r⟩ := hx.one
      obtain ⟨a, ys, rfl, h, r⟩ := r.tup_inv
      exact .inl ⟨a, ys, rfl, .inr h, by rw [r.length]; exact k _ _ q (.int _)⟩
    · obtain ⟨y, rfl, r⟩ := hx.one
      have := r.str_inv
      subst this
      exact .inr ⟨x, rfl, z, k _ _ q (.int _)⟩) hm PySem.boot_len ha hg (by decide) (by decide) he
@[simp] def oAbs : OpN := fun ds P => ∃ i, ds = [.int i] ∧ P (.int (if i < 0 then -i else i))
theorem p_abs (hm : X.mg "abs" = none) (ha : PDos X io [e] fos) (hg : Gl X "abs" := by rfl) (he : starEach [e] X.env = (false, eval e X.env) :: starEach [] X.env := by rfl) : PDv X io (.Call (.Name "abs" p) [e] [] pos) (fCB oAbs fos) :=
  p_cb call_abs (fun H xs ds P Q hx h k => by
    obtain ⟨i, rfl, q⟩ := h
    obtain ⟨x, rfl, r⟩ := hx.one
    exact ⟨i, by rw [r.int_inv], k _ _ q (.int _)⟩) hm (by decide +kernel) ha hg (by decide) (by decide) he
@[simp] def oMax : OpN := fun ds P => ∃ i j, ds = [.int i, .int j] ∧ P (.int (if j > i then j else i))
@[simp] def oMin : OpN := fun ds P => ∃ i j, ds = [.int i, .int j] ∧ P (.int (if j < i then j else i))
theorem p_max (hc : X.calm = true) (hm : X.mg "max" = none) (ha : PDos X io [a, b] fos) (hg : Gl X "max" := by rfl) (he : starEach [a, b] X.env = (false, eval a X.env) :: starEach [b] X.env := by rfl) (hpl : (backTo pos (starEach [b] X.env)).any (·.1) = false := by rfl) : PDv X io (.Call (.Name "max" p) [a, b] [] pos) (fCB oMax fos) :=
  p_cb (call_max2 hc) (fun H xs ds P Q hx h k => by
    obtain ⟨i, j, rfl, q⟩ := h
    obtain ⟨x, y, rfl, r, s⟩ := hx.two
    exact ⟨i, j, by rw [r.int_inv, s.int_inv], k _ _ q (.int _)⟩) hm (by decide +kernel) ha hg (by decide) (by decide) he hpl
theorem p_min (hc : X.calm = true) (hm : X.mg "min" = none) (ha : PDos X io [a, b] fos) (hg : Gl X "min" := by rfl) (he : starEach [a, b] X.env = (false, eval a X.env) :: starEach [b] X.env := by rfl) (hpl : (backTo pos (starEach [b] X.env)).any (·.1) = false := by rfl) : PDv X io (.Call (.Name "min" p) [a, b] [] pos) (fCB oMin fos) :=
  p_cb (call_min2 hc) (fun H xs ds P Q hx h k => by
    obtain ⟨i, j, rfl, q⟩ := h
    obtain ⟨x, y, rfl, r, s⟩ := hx.two
    exact ⟨i, j, by rw [r.int_inv, s.int_inv], k _ _ q (.int _)⟩) hm (by decide +kernel) ha hg (by decide) (by decide) he hpl
@[simp] def oInt : OpN := fun ds P => (∃ i, ds = [.int i] ∧ P (.int i)) ∨ ∃ b, ds = [.bl b] ∧ P (.int (if b then 1 else 0))
theorem p_int (hm : X.mg "int" = none) (ha : PDos X io [e] fos) (hg : Gl X "int" := by rfl) (he : starEach [e] X.env = (false, eval e X.env) :: starEach [] X.env := by rfl) : PDv X io (.Call (.Name "int" p) [e] [] pos) (fCB oInt fos) :=
  p_ct call_int1 (fun H xs ds P Q hx h k => by
    rcases h with ⟨i, rfl, q⟩ | ⟨i, rfl, q⟩
    · obtain ⟨x, rfl, r⟩ := hx.one
      exact .inl ⟨i, by rw [r.int_inv], k _ _ q (.int _)⟩
    · obtain ⟨x, rfl, r⟩ := hx.one
      exact .inr ⟨i, by rw [r.bl_inv], k _ _ q (.int _)⟩) hm (by decide +kernel) ha hg (by decide) (by decide) he
end
end
end DL

namespace DL
open PySem PySem.Spec PyProof.Rows L2
section
variable {X : Cx} {io : List Nat} {e a b c : Expr} {pos : Pos} {K : PySem.W.Frag}
/-! items -/
theorem OTs.length {G H : Hp} : ∀ {vs : List V} {ts : List SV} {fp : List Addr}, OTs K G H vs ts fp → vs.length = ts.length
  | _, _, _, .nil => rfl
  | _, _, _, .cons _ b _ => congrArg (· + 1) (OTs.length b)
theorem OTs.get {G H : Hp} : ∀ {vs : List V} {ts : List SV} {fp : List Addr} {i : Nat} {t : SV}, OTs K G H vs ts fp → ts[i]? = some t → ∃ v f, vs[i]? = some v ∧ OT K G H v t f ∧ ∀ a ∈ f, a ∈ fp
  | _, _, _, _, _, .nil, e => by simp at e
  | _, _, _, 0, _, .cons (v := v) (f1 := f1) x _ _, e => by
    simp at e; subst e
    exact ⟨v, f1, rfl, x, fun a m => List.mem_append_left _ m⟩
  | _, _, _, i + 1, _, .cons x y _, e => by
    obtain ⟨v, f, h1, h2, h3⟩ := OTs.get (i := i) y (by simpa using e)
    exact ⟨v, f, by simpa using h1, h2, fun a m => List.mem_append_right _ (h3 a m)⟩
theorem OTs.dats {G H : Hp} : ∀ {vs : List V} {ds : List DD} {fp : List Addr}, OTs K G H vs (ds.map .dat) fp → RqA K G vs ds ∧ fp = []
  | _, [], _, h => by
    generalize e : List.map SV.dat [] = ts at h
    cases h with
    | nil => exact ⟨.nil, rfl⟩
    | cons => cases e
  | _, d :: ds, _, h => by
    generalize e : List.map SV.dat (d :: ds) = ts at h
    cases h with
    | nil => cases e
    | cons x y _ =>
      rw [List.map_cons] at e
      injection e with e1 e2
      subst e1 e2
      obtain ⟨r, z⟩ := x.dat_inv
      obtain ⟨r2, z2⟩ := OTs.dats y
      subst z z2
      exact ⟨.cons r r2, rfl⟩
theorem RqA.ots {G H : Hp} : ∀ {vs : List V} {ds : List DD}, RqA K G vs ds → OTs K G H vs (ds.map .dat) []
  | _, _, .nil => .nil
  | _, _, .cons a b => OTs.cons (f1 := []) (f2 := []) (.dat a) (RqA.ots b) (fun _ z => nomatch z)
theorem atI_ots {G H : Hp} {vs : List V} {ts : List SV} {fp : List Addr} {i : Int} {t : SV} (h : OTs K G H vs ts fp) (e : atI ts i = some t) : ∃ v f, atI vs i = some v ∧ OT K G H v t f ∧ ∀ a ∈ f, a ∈ fp := by
  unfold atI at e ⊢
  rw [h.length]
  cases q : ixN ts.length i with
  | none => rw [q] at e; cases e
  | some j =>
    rw [q] at e
    exact h.get e
theorem atI_rqA {G : Hp} {vs : List V} {ts : List DD} {i : Int} {t : DD} (h : RqA K G vs ts) (e : atI ts i = some t) : ∃ v, atI vs i = some v ∧ Rq K G v t := by
  unfold atI at e ⊢
  rw [h.length]
  cases q : ixN ts.length i with
  | none => rw [q] at e; cases e
  | some j =>
    rw [q] at e
    exact h.get e
def ixT : SV → Int → (DD → Prop) → Prop
  | .dat (.lst ds), i, P => ∃ d, atI ds i = some d ∧ P d
  | .dat (.tup ds), i, P => ∃ d, atI ds i = some d ∧ P d
  | .dat (.klst ds), i, P => ∃ d, atI ds i = some d ∧ P d
  | .dat (.str x), i, P => ∃ c, x.length ≤ sizeLine ∧ atI x.cps.toList i = some c ∧ P (.str ⟨#[c]⟩)
  | .own ts, i, P => ∃ d, atI ts i = some (.dat d) ∧ P d
  | _, _, _ => False
@[simp] def fIx (fa fb : FO) : FV := fun ρ Q => fa ρ fun x ρ1 => fb ρ1 fun y ρ2 => ∃ t i, resT ρ2 x = some t ∧ resD ρ2 y = some (.int i) ∧ ixT t i fun d => Q d ρ2
variable {fa fb : FO}
theorem v_ix (ha : PDo X io a fa) (hb : PDo X io b fb) (hs : PlainIx b := by exact fun _ _ => rfl) : PDv X io (.Subscript a b pos) (fIx fa fb) := by
  obtain ⟨ta, a1, a2⟩ := ha
  obtain ⟨tb, b1, b2⟩ := hb
  refine ⟨_, pe_ix ix_seq a1 b1 hs, fun B G H σ ρ fp Qd Q hB R hf k => ?_⟩
  refine a2 B G H σ ρ fp _ _ hB R hf fun x ρ1 v1 G1 H1 fp1 n1 o1 hf => ?_
  refine b2 B G1 H1 σ ρ1 fp1 _ _ hB n1.rp hf fun y ρ2 v2 G2 H2 fp2 n2 o2 ⟨t, i, e1, e2, q⟩ => ?_
  have hi := (o2.rqH n2.rp e2).int_inv
  obtain ⟨f, ot, hin⟩ := (o1.next n2).tree n2.rp e1
  have n := n1.trans n2
  have sub := n2.rp.co.sub
  cases t with
  | dat d =>
    have rq := ot.dat_inv.1
    cases d with
    | lst ds =>
      obtain ⟨d, e, q⟩ := q
      obtain ⟨p, xs, ev, h, r⟩ := rq.lst_inv
      obtain ⟨w, ew, rw'⟩ := atI_rqA r e
      exact .inl ⟨p, xs, i, w, ev, hi, .inl (sub.rd h), ew, k d ρ2 w G2 H2 fp2 n rw' q⟩
    | tup ds =>
      obtain ⟨d, e, q⟩ := q
      obtain ⟨p, xs, ev, h, r⟩ := rq.tup_inv
      obtain ⟨w, ew, rw'⟩ := atI_rqA r e
      exact .inr (.inl ⟨p, xs, i, w, ev, hi, sub.t h, ew, k d ρ2 w G2 H2 fp2 n rw' q⟩)
    | klst ds =>
      obtain ⟨d, e, q⟩ := q
      cases rq with
      | klst h r =>
        obtain ⟨w, ew, rw'⟩ := atI_rqA r e
        exact .inl ⟨_, _, i, w, rfl, hi, Sub.l (G := fun _ => none) (fun _ _ z => by cases z) h, ew, k d ρ2 w G2 H2 fp2 n rw' q⟩
    | str x =>
      obtain ⟨c, hz, e, q⟩ := q
      exact .inr (.inr ⟨x, i, c, rq.str_inv, hi, hz, e, k _ ρ2 _ G2 H2 fp2 n (.str _) q⟩)
    | _ => exact False.elim q
  | own ts =>
    obtain ⟨d, e, q⟩ := q
    obtain ⟨p, xs, f', ev, _, h, _, os, _⟩ := ot.own_inv
    obtain ⟨w, fw, ew, ow, _⟩ := atI_ots os e
    exact .inl ⟨p, xs, i, w, ev, hi, .inl (.inl h), ew, k d ρ2 w G2 H2 fp2 n ow.dat_inv.1 q⟩
  | ob => exact False.elim q

/-! cuts -/
def cutD {α : Type} (xs : List α) (lo hi : Option Int) : List α := (xs.drop (HT.sIx xs.length 0 lo)).take (HT.sIx xs.length xs.length hi - HT.sIx xs.length 0 lo)
theorem cut_rqA {G : Hp} {vs : List V} {ds : List DD} (h : RqA K G vs ds) (lo hi : Option Int) : RqA K G (cutV vs lo hi) (cutD ds lo hi) := by
  unfold cutV cutD
  rw [h.length]
  exact (h.drop _).take _
theorem OTs.take {G H : Hp} : ∀ {vs : List V} {ts : List SV} {fp : List Addr} (n : Nat), OTs K G H vs ts fp → ∃ f, OTs K G H (vs.take n) (ts.take n) f
  | _, _, _, 0, _ => ⟨[], .nil⟩
  | _, _, _, _ + 1, .nil => ⟨[], .nil⟩
  | _, _, _, n + 1, .cons (f1 := f1) (f2 := f2) a b d => by
    have aux : ∀ {vs : List V} {ts : List SV} {fp : List Addr} (n : Nat), OTs K G H vs ts fp → ∃ f, OTs K G H (vs.take n) (ts.take n) f ∧ ∀ a ∈ f, a ∈ fp := by
      intro vs
      induction vs with
      | nil => intro ts fp n h; cases h; exact ⟨[], by simp; exact .nil, fun _ z => nomatch z⟩
      | cons v vs ih =>
        intro ts fp n h
        cases n with
        | zero => exact ⟨[], .nil, fun _ z => nomatch z⟩
        | succ n =>
          cases h with
          | cons a b d =>
            obtain ⟨f, h1, h2⟩ := ih n b
            exact ⟨_, .cons a h1 (fun x m m' => d x m (h2 x m')), fun x m => (List.mem_append.mp m).elim (List.mem_append_left _) fun m => List.mem_append_right _ (h2 x m)⟩
    obtain ⟨f, h, _⟩ := aux (n + 1) (.cons a b d)
    exact ⟨f, h⟩
theorem OTs.drop {G H : Hp} : ∀ {vs : List V} {ts : List SV} {fp : List Addr} (n : Nat), OTs K G H vs ts fp → ∃ f, OTs K G H (vs.drop n) (ts.drop n) f
  | _, _, _, 0, h => ⟨_, h⟩
  | _, _, _, _ + 1, .nil => ⟨[], .nil⟩
  | _, _, _, n + 1, .cons a b d => OTs.drop n b
def slT : SV → Option Int → Option Int → (SV → Prop) → Prop
  | .dat (.lst ds), lo, hi, P => P (.own ((cutD ds lo hi).map .dat))
  | .own ts, lo, hi, P => ∃ ds : List DD, cutD ts lo hi = ds.map SV.dat ∧ P (.own (ds.map SV.dat))
  | .dat (.str x), lo, hi, P => x.length ≤ sizeLine ∧ P (.dat (.str (cutS x lo hi)))
  | _, _, _, _ => False
abbrev FP := Rho → (Option Int → Rho → Prop) → Prop
def PDp (X : Cx) (io : List Nat) (e : Option Expr) (fp' : FP) : Prop := ∃ to, PO X e to ∧ ∀ (B : Bs) G H σ ρ fp (Qd : Option Int → Rho → Prop) (Q : Option Int → Hp → Prop), B.io = io → Rp X.K B G H σ ρ fp → fp' ρ Qd →
  (∀ o ρ' G' H' fp', Nxt X.K B σ G H fp G' H' ρ' fp' → Qd o ρ' → Q o H') → to σ H Q
@[simp] def fNone : FP := fun ρ Q => Q none ρ
@[simp] def fSome (fo : FO) : FP := fun ρ Q => fo ρ fun x ρ1 => ∃ i, resD ρ1 x = some (.int i) ∧ Q (some i) ρ1
theorem s_none : PDp X io none fNone := ⟨_, po_none, fun B G H σ ρ fp Qd Q hB R hf k => k none ρ G H fp (Nxt.refl R) hf⟩
theorem s_some (h : PDo X io e fa) : PDp X io (some e) (fSome fa) := by
  obtain ⟨_, h1, h2⟩ := h
  refine ⟨_, po_some h1, fun B G H σ ρ fp Qd Q hB R hf k => ?_⟩
  refine h2 B G H σ ρ fp _ _ hB R hf fun x ρ1 v1 G1 H1 fp1 n1 o1 ⟨i, e1, q⟩ => ?_
  exact ⟨i, (o1.rqH n1.rp e1).int_inv, k _ ρ1 G1 H1 fp1 n1 q⟩
@[simp] def fSl (fa : FO) (fl fh : FP) : FE := fun ρ Q => fa ρ fun x ρ1 => fl ρ1 fun lo ρ2 => fh ρ2 fun hi ρ3 => ∃ t, resT ρ3 x = some t ∧ slT t lo hi fun r => Q r ρ3
theorem new_own {K : PySem.W.Frag} {B : Bs} {σ : L2.St} {G H G' H' : Hp} {ρ ρ' : Rho} {fp fp' : Nat → List Addr} {vs : List V} {ts : List SV} {fr : List Addr} {Q : VK} (R : Rp K B G H σ ρ fp) (n : Nxt K B σ G H fp G' H' ρ' fp') (o : OTs K G' H' vs ts fr)
    (t1 : ∀ a ∈ fr, ¬ In fp' a) (t2 : ∀ a ∈ fr, H a = none ∨ In fp a)
    (k : ∀ v G'' H'' fp'' fr', Nxt K B σ G H fp G'' H'' ρ' fp'' → OT K G'' H'' v (.own ts) fr' → (∀ a ∈ fr', ¬ In fp'' a) → (∀ a ∈ fr', H a = none ∨ In fp a) → Q v H'') :
    ∀ p, H' p = none → Q (.ref p) (upd H' p (.lst vs)) := fun p hp => by
  have gp : G' p = none := by
    cases e : G' p with
    | none => rfl
    | some u => have := n.rp.co.sub _ _ e; rw [hp] at this; cases this
  have np : p ∉ fr := fun m => by
    obtain ⟨⟨u, h⟩, _⟩ := o.here p m
    rw [hp] at h; cases h
  have n2 := n.trans (Nxt.laid n.rp (o := .lst vs) hp)
  refine k _ _ _ _ (p :: fr) n2 (.own upd_same gp (o.mono (Sub.refl _) (fun a m u e => by rw [upd_ne (fun z : a = p => np (z ▸ m))]; exact e) fun a m => (o.here a m).2) np) (fun a m => ?_) fun a m => ?_
  · rcases List.mem_cons.mp m with z | m
    · subst z
      intro i
      obtain ⟨⟨u, h⟩, _⟩ := n.rp.co.here i
      rw [hp] at h; cases h
    · exact t1 a m
  · rcases List.mem_cons.mp m with z | m
    · subst z
      by_cases q : In fp a
      · exact .inr q
      · exact .inl (n.st.fresh q hp)
    · exact t2 a m
theorem sl_any : SlR X (fun x lo hi H Q => rSlL X.K x lo hi H Q ∨ ∃ z, x = .str z ∧ z.length ≤ sizeLine ∧ Q (.str (cutS z lo hi)) H) := sl_list.or sl_str
theorem e_sl {lo hi : Option Expr} {fl fh : FP} {p2 : Pos} (ha : PDo X io a fa) (hl : PDp X io lo fl) (hh : PDp X io hi fh) : PDe X io (.Subscript a (.Slice lo hi none p2) pos) (fSl fa fl fh) := by
  obtain ⟨ta, a1, a2⟩ := ha
  obtain ⟨tl, l1, l2⟩ := hl
  obtain ⟨th, h1, h2⟩ := hh
  refine ⟨_, pe_slice sl_any a1 l1 h1, fun B G H σ ρ fp Qd Q hB R hf k => ?_⟩
  refine a2 B G H σ ρ fp _ _ hB R hf fun x ρ1 v1 G1 H1 fp1 n1 o1 hf => ?_
  refine l2 B G1 H1 σ ρ1 fp1 _ _ hB n1.rp hf fun lo ρ2 G2 H2 fp2 n2 hf => ?_
  refine h2 B G2 H2 σ ρ2 fp2 _ _ hB n2.rp hf fun hi ρ3 G3 H3 fp3 n3 ⟨t, e1, q⟩ => ?_
  have n := (n1.trans n2).trans n3
  obtain ⟨f, ot, hin⟩ := ((o1.next n2).next n3).tree n3.rp e1
  cases t with
  | dat d =>
    have rq := ot.dat_inv.1
    cases d with
    | lst ds =>
      obtain ⟨p, xs, ev, h, r⟩ := rq.lst_inv
      exact .inl ⟨p, xs, ev, .inl (n3.rp.co.sub.rd h), new_own R n (cut_rqA r lo hi).ots (fun _ z => nomatch z) (fun _ z => nomatch z) fun v G'' H'' fp'' fr' n' ot' t1 t2 => k _ _ _ _ _ _ _ n' ot' t1 t2 q⟩
    | str x =>
      exact .inr ⟨x, rq.str_inv, q.1, k _ _ _ _ _ _ [] n (.dat (.str _)) (fun _ z => nomatch z) (fun _ z => nomatch z) q.2⟩
    | _ => exact False.elim q
  | own ts =>
    obtain ⟨ds, eds, q⟩ := q
    obtain ⟨p, xs, f', ev, _, h, _, os, _⟩ := ot.own_inv
    have : ∃ f, OTs X.K G3 H3 (cutV xs lo hi) (ds.map .dat) f := by
      rw [← eds]
      unfold cutV cutD
      rw [os.length]
      obtain ⟨_, o2⟩ := os.drop (HT.sIx ts.length 0 lo)
      exact o2.take _
    obtain ⟨f2, o2⟩ := this
    obtain ⟨r, _⟩ := o2.dats
    exact .inl ⟨p, xs, ev, .inl (.inl h), new_own R n r.ots (fun _ z => nomatch z) (fun _ z => nomatch z) fun v G'' H'' fp'' fr' n' ot' t1 t2 => k _ _ _ _ _ _ _ n' ot' t1 t2 q⟩
  | ob => exact False.elim q
/-- xs[::-1] -/
@[simp] def fRev (fa : FO) : FE := fun ρ Q => fa ρ fun x ρ1 => ∃ ds, resT ρ1 x = some (.dat (.lst ds)) ∧ Q (.own (ds.reverse.map .dat)) ρ1
theorem e_rev {k : Nat} {p1 p2 p3 : Pos} (ha : PDo X io a fa) : PDe X io (.Subscript a (.Slice none none (some (.UnaryOp .USub (.Constant (.int 1) k p1) p2)) p3) pos) (fRev fa) := by
  obtain ⟨ta, a1, a2⟩ := ha
  refine ⟨_, pe_revL a1, fun B G H σ ρ fp Qd Q hB R hf k => ?_⟩
  refine a2 B G H σ ρ fp _ _ hB R hf fun x ρ1 v1 G1 H1 fp1 n1 o1 ⟨ds, e1, q⟩ => ?_
  obtain ⟨f, ot, hin⟩ := o1.tree n1.rp e1
  obtain ⟨p, xs, ev, h, r⟩ := ot.dat_inv.1.lst_inv
  exact ⟨p, xs, ev, .inl (n1.rp.co.sub.rd h), new_own R n1 r.reverse.ots (fun _ z => nomatch z) (fun _ z => nomatch z) fun v G'' H'' fp'' fr' n' ot' t1 t2 => k _ _ _ _ _ _ _ n' ot' t1 t2 q⟩

/-! displays -/
abbrev FSs := Rho → (List SV → Rho → Prop) → Prop
def DSv (K : PySem.W.Frag) (io : List Nat) (ta : TA) (fs : FSs) : Prop := ∀ (B : Bs) G H σ ρ fp (Qd : List SV → Rho → Prop) (Q : List V → Hp → Prop), B.io = io → Rp K B G H σ ρ fp → fs ρ Qd →
  (∀ ts ρ' vs G' H' fp' fr, Nxt K B σ G H fp G' H' ρ' fp' → OTs K G' H' vs ts fr → (∀ a ∈ fr, ¬ In fp' a) → (∀ a ∈ fr, H a = none ∨ In fp a) → Qd ts ρ' → Q vs H') → ta σ H Q
def PDs' (X : Cx) (io : List Nat) (es : List Expr) (fs : FSs) : Prop := ∃ ta, PA X es ta ∧ DSv X.K io ta fs
@[simp] def gNil : FSs := fun ρ Q => Q [] ρ
@[simp] def gCons (fa : FE) (fr : FSs) : FSs := fun ρ Q => fa ρ fun x ρ1 => fr ρ1 fun xs ρ2 => Q (x :: xs) ρ2
theorem g_nil : PDs' X io [] gNil := ⟨_, pa_nil, fun B G H σ ρ fp Qd Q hB R hf k => k [] ρ [] G H fp [] (Nxt.refl R) .nil (fun _ z => nomatch z) (fun _ z => nomatch z) hf⟩
theorem g_cons {es : List Expr} {fe : FE} {fr : FSs} (ha : PDe X io e fe) (hr : PDs' X io es fr) (hs : starEach (e :: es) X.env = (false, eval e X.env) :: starEach es X.env := by rfl) : PDs' X io (e :: es) (gCons fe fr) := by
  obtain ⟨_, a1, a2⟩ := ha
  obtain ⟨_, b1, b2⟩ := hr
  refine ⟨_, pa_cons a1 b1 hs, fun B G H σ ρ fp Qd Q hB R hf k => ?_⟩
  refine a2 B G H σ ρ fp _ _ hB R hf fun x ρ1 v1 G1 H1 fp1 f1 n1 o1 t1 t1' hf => ?_
  refine b2 B G1 H1 σ ρ1 fp1 _ _ hB n1.rp hf fun xs ρ2 vs G2 H2 fp2 f2 n2 os t2 t2' q => ?_
  have o1' : OT X.K G2 H2 v1 x f1 := o1.mono n2.st.ex (fun a m o h => n2.st.keep a o (t1 a m) h) fun a m => by
    obtain ⟨⟨u, h⟩, g⟩ := o1.here a m
    exact n2.st.hid a u (t1 a m) h g
  refine k _ ρ2 _ G2 H2 fp2 (f1 ++ f2) (n1.trans n2) (.cons o1' os fun a m m' => ?_) (fun a m => ?_) (fun a m => ?_) q
  · rcases t2' a m' with z | z
    · obtain ⟨⟨u, h⟩, _⟩ := o1.here a m
      rw [z] at h; cases h
    · exact t1 a m z
  · rcases List.mem_append.mp m with m | m
    · intro i
      rcases n2.inn a i with z | z
      · exact t1 a m z
      · obtain ⟨⟨u, h⟩, _⟩ := o1.here a m
        rw [z] at h; cases h
    · exact t2 a m
  · rcases List.mem_append.mp m with m | m
    · exact t1' a m
    · rcases t2' a m with z | z
      · by_cases q : In fp a
        · exact .inr q
        · exact .inl (n1.st.fresh q z)
      · exact (n1.inn a z).symm
@[simp] def fLst (fs : FSs) : FE := fun ρ Q => fs ρ fun ts ρ1 => ts.length ≤ sizeLine ∧ Q (.own ts) ρ1
theorem e_lst {es : List Expr} {fs : FSs} (h : PDs' X io es fs) : PDe X io (.List es pos) (fLst fs) := by
  obtain ⟨_, a1, a2⟩ := h
  refine ⟨_, pe_lst a1, fun B G H σ ρ fp Qd Q hB R hf k => ?_⟩
  refine a2 B G H σ ρ fp _ _ hB R hf fun ts ρ1 vs G1 H1 fp1 f1 n1 os t1 t1' ⟨hz, q⟩ => ?_
  exact ⟨by rw [os.length]; exact hz, new_own R n1 os t1 t1' fun v G'' H'' fp'' fr' n' ot' u1 u2 => k _ _ _ _ _ _ _ n' ot' u1 u2 q⟩
@[simp] def fTup (fs : FSs) : FV := fun ρ Q => fs ρ fun ts ρ1 => ts.length ≤ sizeLine ∧ Q (.tup (ts.map SV.data)) ρ1
theorem Nxt.sealeds {K : PySem.W.Frag} {B : Bs} {σ : L2.St} {G H G' H' : Hp} {ρ ρ' : Rho} {fp fp' : Nat → List Addr} {v : List V} {r : List SV} {fr : List Addr} (R : Rp K B G H σ ρ fp) (n : Nxt K B σ G H fp G' H' ρ' fp') (ot : OTs K G' H' v r fr) (h1 : ∀ a ∈ fr, ¬ In fp' a) (h2 : ∀ a ∈ fr, H a = none ∨ In fp a) :
    Nxt K B σ G H fp (sealH G' H' fr) H' ρ' fp' ∧ RqA K (sealH G' H' fr) v (r.map SV.data) := by
  have g0 : ∀ a ∈ fr, G' a = none := fun a m => (ot.here a m).2
  have sub : Sub (sealH G' H' fr) H' := fun a o e => by
    by_cases m : a ∈ fr
    · rw [sealH_in m] at e; exact e
    · rw [sealH_out m] at e; exact n.rp.co.sub a o e
  refine ⟨⟨⟨n.rp.co.grow (sealH_sub g0) (fun _ _ _ e => e) (fun a m => ?_) sub, n.rp.stp.sealed g0 fun a m => ?_, n.rp.own, n.rp.io, n.rp.lo.trans (sealH_sub g0)⟩, n.st.sealed g0 h2, n.inn⟩, by rw [← SV.datas_eq]; exact ot.sealed (sealH_sub g0) fun a m o e => by rw [sealH_in m]; exact e⟩
  · rw [sealH_out fun z => h1 a z m]; exact (n.rp.co.here m).2
  · rcases h2 a m with z | z
    · by_cases q : In B.fp0 a
      · exact .inr q
      · exact .inl (R.stp.fresh q z)
    · exact (R.own a z).symm
theorem v_tup {es : List Expr} {fs : FSs} {x1} (h : PDs' X io es fs) : PDv X io (.Tuple es x1 pos) (fTup fs) := by
  obtain ⟨_, a1, a2⟩ := h
  refine ⟨_, pe_tup a1, fun B G H σ ρ fp Qd Q hB R hf k => ?_⟩
  refine a2 B G H σ ρ fp _ _ hB R hf fun ts ρ1 vs G1 H1 fp1 f1 n1 os t1 t1' ⟨hz, q⟩ => ?_
  obtain ⟨n2, rs⟩ := Nxt.sealeds R n1 os t1 t1'
  refine ⟨by rw [os.length]; exact hz, fun p hp => ?_⟩
  have n3 := n2.trans (Nxt.stand n2.rp (o := .tup vs) hp)
  refine k _ ρ1 _ _ _ fp1 n3 (.tup (.inl (.inl upd_same)) (rs.mono fun a o e => ?_)) q
  have ne : a ≠ p := fun z => by
    have := n2.rp.co.sub _ _ e
    rw [z, hp] at this; cases this
  rw [upd_ne ne]; exact e
end
end DL

namespace DL
open PySem PySem.Spec PyProof.Rows L2
/-! ### defs, called where no repr is under way -/
structure RoomG (k : Nat) (A : Around) : Prop where
  r : Room k A
  g : A.guards = some []
theorem RoomG.mono {j k : Nat} {A : Around} (h : RoomG k A) (l : j ≤ k) : RoomG j A := ⟨h.r.mono l, h.g⟩
structure FnG (P : Program) (w : World) (K : PySem.W.Frag) (mg : Str → Option Value) (base : Heap) (CX : CXT) (k : Nat) (f : Addr) (fd : FuncData) (ps : List Str) (sp : Sp) : Prop where
  len : ∀ vs H Q E, sp vs H Q E → vs.length = ps.length
  run : ∀ (A : Around) (outer : List Env) (s : Shared) (H : Hp) (args : Args) (us : List Value) (vs : List V) (Q : VK) (E : XK), RoomG k A → Env0 P w K mg base A outer s H → BindsTo s fd args (ps.zip us) → Vals vs us → sp vs H Q E →
    codeAny (model P w) A (.call (.ref f) args) (CR CX outer P w H s Q E) s
section
variable {CX : CXT} {P : Program} {w : World} {K : PySem.W.Frag} {mg : Str → Option Value} {base : Heap} {k : Nat} {f : Addr} {fd : FuncData} {ps : List Str} {sp : Sp}
theorem FnG.mono {j : Nat} (F : FnG P w K mg base CX j f fd ps sp) (h : j ≤ k) : FnG P w K mg base CX k f fd ps sp := ⟨F.len, fun A outer s H args us vs Q E hr => F.run A outer s H args us vs Q E (hr.mono h)⟩
theorem FnG.imp {sp' : Sp} (F : FnG P w K mg base CX k f fd ps sp) (h : ∀ vs H Q E, sp' vs H Q E → sp vs H Q E) : FnG P w K mg base CX k f fd ps sp' :=
  ⟨fun vs H Q E q => F.len vs H Q E (h _ _ _ _ q), fun A outer s H args us vs Q E hr he hb hv hs => F.run A outer s H args us vs Q E hr he hb hv (h _ _ _ _ hs)⟩
theorem fn_ofG {name qual : Str} {params : Arguments} {body : List Stmt} {scope : Scope} {dV kV doc pm cdv ct oc : Value} {an od : Option Addr}
    {osl : Array (Option Value)} {N : List Str} (lk : K.lookup f = some ⟨oc, od, .func (PySem.W.fnOf name qual params body scope dV kV doc pm an cdv ct), osl⟩) (hcd : PySem.W.codeIn K cdv qual = true) (S : FnScope N ps scope)
    (len : ∀ vs H Q E, sp vs H Q E → vs.length = ps.length)
    (hbody : ∀ (A : Around) (outer : List Env) (s : Shared) (H : Hp) (vs : List V) (Q : VK) (E : XK), RoomG k (A.deeper (envOfC qual scope s.heap.objs.size f cdv)) → sp vs H Q E →
      ∃ t, PSs (cxOf CX P w K mg base N qual scope f cdv A outer s H E) body t ∧ t { nx := fun _ H' => Q .non H', rt := Q } (start N vs) H) :
    FnG P w K mg base CX (k + 1) f (PySem.W.fnOf name qual params body scope dV kV doc pm an cdv ct) ps sp := by
  refine ⟨len, fun A outer s H args us vs Q E hr e0 hb r hsp => ?_⟩
  have hl := len _ _ _ _ hsp
  have KX : K.In s.heap := e0.mod.kin.keeps fun b o e => (e0.bs b o e).1
  have lim : s.heap.NoLimit := e0.mod.nolimit.keeps fun b o e => (e0.bs b o e).1
  have hkind : ∀ y ∈ ps.zip us, scope.names.lookup y.1 = some .local ∨ (scope.names.lookup y.1 = some .cell ∧ ((cellsFrom (s.heap.objs.size + 1) scope.names []).lookup y.1).isSome = true) := fun ⟨n, v⟩ hy => by
    rcases S.par n (List.of_mem_zip hy).1 with q | q
    · exact .inl q
    · exact .inr ⟨q, PySem.W.cellsFrom_some _ _ _ (.inl q)⟩
  refine codeAny_call_function hr.r.depth (KX _ _ lk) rfl S.co S.gen rfl (PySem.W.codeRec_of KX hcd) (hb _ _ _ _ ?_)
  refine wpAny_newFunctionEnv_cells S.kind hkind fun env he s1 x => ?_
  subst he
  refine ⟨lim.keeps x.toInCall.keep, codeAny_func ?_⟩
  obtain ⟨t, ht, hq⟩ := hbody A outer s H vs Q E ⟨hr.r.deeper _, hr.g⟩ hsp
  have I : Inv (cxOf CX P w K mg base N qual scope f cdv A outer s H E) [] (start N vs) H s1 := inv_start S hr.r.hd e0 hl r x
  refine wpAny_mono (ht.run [] s1 (start N vs) H _ I hq) (fun fl s' hs => ?_) fun e s' hs => hs
  have fin : ∀ {σ' : L2.St} {H' : Hp} {v : V} {u : Value}, Inv (cxOf CX P w K mg base N qual scope f cdv A outer s H E) [] σ' H' s' → RelV v u → Q v H' → CE outer P w H s Q u s' :=
    fun {σ' H' v u} J rv q => ⟨v, H', J.os, J.bare, J.base, J.hok, rv, q⟩
  cases fl with
  | ret u =>
    obtain ⟨v, σ', H', J, rv, q⟩ := hs
    exact fin J rv q
  | next =>
    obtain ⟨σ', H', J, q⟩ := hs
    exact fin (v := V.non) (u := Value.none) J rfl q
  | brk =>
    obtain ⟨_, _, _, q⟩ := hs
    exact False.elim q
  | cont =>
    obtain ⟨_, _, _, q⟩ := hs
    exact False.elim q
end
section
variable {X : Cx} {CX : CXT} {k : Nat} {f C : Addr} {fd : FuncData} {ps : List Str} {sp : Sp} {E : XK} {x m : Str} {p pos apos : Pos} {e o : Expr} {es : List Expr} {ta : TE} {t : TA}
theorem run_fnG {pins : List (Addr × Obj)} {σ : L2.St} {H : Hp} {s : Shared} {Q : VK} {us : List Value} {vs : List V} (F : FnG X.prog X.w X.K X.mg X.base CX k f fd ps sp) (hr : RoomG k X.A) (hb : Binds X.K fd ps []) (hx : Passes CX X E)
    (I : Inv X pins σ H s) (r : Vals vs us) (h : sp vs H Q E) : wpAny (model X.prog X.w) X.A (call (.ref f) us) (EP X pins σ Q) X.xe s := by
  have hl : (us ++ []).length = ps.length := by rw [List.append_nil, ← r.length]; exact F.len _ _ _ _ h
  have hb2 := hb s us I.kIn hl
  rw [List.append_nil] at hb2
  refine wpAny_call (codeAny_mono (F.run X.A X.stack s H ⟨us, []⟩ us vs Q E hr I.env0 hb2 r h) fun r s' hq => ?_)
  cases r with
  | error e => exact hx pins σ H s e s' I hq
  | ok fl =>
    cases fl with
    | ret u => exact I.after hq
    | next => exact False.elim hq
    | brk => exact False.elim hq
    | cont => exact False.elim hq
theorem pe_callG (F : FnG X.prog X.w X.K X.mg X.base CX k f fd ps sp) (hr : RoomG k X.A) (hg : Gl X x) (hm : X.mg x = some (.ref f)) (hk : PySem.W.keepIn X.K (.ref f) = true) (hb : Binds X.K fd ps []) (hx : Passes CX X E)
    (ha : PA X (e :: es) t) (hdb : (x == ("__debug__" : Str)) = false := by decide) (he : starEach (e :: es) X.env = (false, eval e X.env) :: starEach es X.env := by rfl) (hpl : (backTo pos (starEach es X.env)).any (·.1) = false := by rfl) :
    PE X (.Call (.Name x p) (e :: es) [] pos) (tCall sp [] E t) := by
  refine ⟨fun pins s σ H Q I h => ?_⟩
  refine wpAny_Call_Name_kw (ld_glob I hg hm ?_ hdb)
  refine PySem.W.callWith_K (h₀ := X.base) I.ok.mod.kin hk (thn (ha.run pos pins s σ H _ I h) fun us s1 ⟨vs, H1, I1, r, q⟩ => ⟨I1.kIn, ?_⟩) he hpl
  have q' : sp (vs ++ []) H1 Q E := q
  rw [List.append_nil] at q'
  exact run_fnG F hr hb hx I1 r q'
theorem pe_callG0 (F : FnG X.prog X.w X.K X.mg X.base CX k f fd ps sp) (hr : RoomG k X.A) (hg : Gl X x) (hm : X.mg x = some (.ref f)) (hk : PySem.W.keepIn X.K (.ref f) = true) (hb : Binds X.K fd ps []) (hx : Passes CX X E)
    (hdb : (x == ("__debug__" : Str)) = false := by decide) : PE X (.Call (.Name x p) [] [] pos) (tCall sp [] E tNil) := by
  refine ⟨fun pins s σ H Q I h => ?_⟩
  refine wpAny_Call_Name_kw (ld_glob I hg hm ?_ hdb)
  exact PySem.W.callWith_K0 I.kIn hk (run_fnG (us := []) F hr hb hx I .nil h)
variable {ks : List Str} {kws : List Keyword} {tk : TA} {g : List Value → List Value → List Value} {gV : List V → List V → List V}
theorem run_fnkG {pins : List (Addr × Obj)} {σ : L2.St} {H : Hp} {s : Shared} {Q : VK} {us ws : List Value} {vs zs : List V} (F : FnG X.prog X.w X.K X.mg X.base CX k f fd ps sp) (hr : RoomG k X.A) (hb : KBinds X.K fd ps ks g gV) (hx : Passes CX X E)
    (I : Inv X pins σ H s) (r : Vals vs us) (rz : Vals zs ws) (h : sp (gV vs zs) H Q E) : wpAny (model X.prog X.w) X.A (call (.ref f) us (ks.zip ws)) (EP X pins σ Q) X.xe s := by
  have r2 := hb.rel r rz
  have hl : (g us ws).length = ps.length := by rw [← r2.length]; exact F.len _ _ _ _ h
  refine wpAny_call (codeAny_mono (F.run X.A X.stack s H ⟨us, ks.zip ws⟩ (g us ws) (gV vs zs) Q E hr I.env0 (hb.to s us ws I.kIn hl) r2 h) fun r s' hq => ?_)
  cases r with
  | error e => exact hx pins σ H s e s' I hq
  | ok fl =>
    cases fl with
    | ret u => exact I.after hq
    | next => exact False.elim hq
    | brk => exact False.elim hq
    | cont => exact False.elim hq
end

/-! ### what a def is worth, by data -/
abbrev Ctr := List SV → (SV → List SV → Prop) → Prop
def spD (K : PySem.W.Frag) (F : Ctr) : Sp := fun vs H Q _ => ∃ G as fp Qd, Co K G H (vs.map some) (as.map some) fp ∧ F as Qd ∧ ∀ r as' v G' H' fp' fr, Co K G' H' (vs.map some) (as'.map some) fp' →
  Stp (In fp) G H G' H' → (∀ a, In fp' a → In fp a ∨ H a = none) → OT K G' H' v r fr → (∀ a ∈ fr, ¬ In fp' a) → (∀ a ∈ fr, H a = none ∨ In fp a) → Qd r as' → Q v H'
/-- the def x stands, and is worth F -/
def Hs (P : Program) (w : World) (K : PySem.W.Frag) (mg : Str → Option Value) (base : Heap) (x : Str) (ps : List Str) (k : Nat) (F : Ctr) : Prop :=
  ∃ f fd, mg x = some (.ref f) ∧ PySem.W.keepIn K (.ref f) = true ∧ Binds K fd ps [] ∧ FnG P w K mg base CX0 k f fd ps (spD K F)
/-- an argument: a tree given away, or a slot -/
inductive AV where
  | val (t : SV)
  | ref (i : Nat)
inductive AVR (K : PySem.W.Frag) (G H : Hp) (σ : L2.St) : List V → List AV → List Addr → Prop
  | nil : AVR K G H σ [] [] []
  | val {v : V} {t : SV} {vs : List V} {as : List AV} {f1 f2 : List Addr} : OT K G H v t f1 → AVR K G H σ vs as f2 → (∀ a ∈ f1, a ∉ f2) → AVR K G H σ (v :: vs) (.val t :: as) (f1 ++ f2)
  | ref {v : V} {i : Nat} {vs : List V} {as : List AV} {f2 : List Addr} : σ[i]? = some (some v) → AVR K G H σ vs as f2 → AVR K G H σ (v :: vs) (.ref i :: as) f2
theorem AVR.mono {K : PySem.W.Frag} {G H G' H' : Hp} {σ : L2.St} (s : Sub G G') : ∀ {vs : List V} {as : List AV} {fr : List Addr}, AVR K G H σ vs as fr → (∀ a ∈ fr, ∀ o, H a = some o → H' a = some o) → (∀ a ∈ fr, G' a = none) → AVR K G' H' σ vs as fr
  | _, _, _, .nil, _, _ => .nil
  | _, _, _, .val a b d, k, z => .val (a.mono s (fun x m => k x (List.mem_append_left _ m)) fun x m => z x (List.mem_append_left _ m)) (AVR.mono s b (fun x m => k x (List.mem_append_right _ m)) fun x m => z x (List.mem_append_right _ m)) d
  | _, _, _, .ref a b, k, z => .ref a (AVR.mono s b k z)
theorem AVR.here {K : PySem.W.Frag} {G H : Hp} {σ : L2.St} : ∀ {vs : List V} {as : List AV} {fr : List Addr}, AVR K G H σ vs as fr → ∀ a ∈ fr, (∃ o, H a = some o) ∧ G a = none
  | _, _, _, .nil, a, m => by cases m
  | _, _, _, .val x y _, a, m => (List.mem_append.mp m).elim (x.here a) (AVR.here y a)
  | _, _, _, .ref _ y, a, m => AVR.here y a m
abbrev FAs := Rho → (List AV → Rho → Prop) → Prop
def DAs (K : PySem.W.Frag) (io : List Nat) (ta : TA) (fa : FAs) : Prop := ∀ (B : Bs) G H σ ρ fp (Qd : List AV → Rho → Prop) (Q : List V → Hp → Prop), B.io = io → Rp K B G H σ ρ fp → fa ρ Qd →
  (∀ as ρ' vs G' H' fp' fr, Nxt K B σ G H fp G' H' ρ' fp' → AVR K G' H' σ vs as fr → (∀ a ∈ fr, ¬ In fp' a) → (∀ a ∈ fr, H a = none ∨ In fp a) → Qd as ρ' → Q vs H') → ta σ H Q
def PDas (X : Cx) (io : List Nat) (es : List Expr) (fa : FAs) : Prop := ∃ ta, PA X es ta ∧ DAs X.K io ta fa
@[simp] def aNil : FAs := fun ρ Q => Q [] ρ
@[simp] def aVal (fa : FE) (fr : FAs) : FAs := fun ρ Q => fa ρ fun x ρ1 => fr ρ1 fun xs ρ2 => Q (.val x :: xs) ρ2
@[simp] def aRef (i : Nat) (fr : FAs) : FAs := fun ρ Q => (∃ t, ρ[i]? = some (some t)) ∧ fr ρ fun xs ρ2 => Q (.ref i :: xs) ρ2
section
variable {X : Cx} {io : List Nat} {e : Expr} {es : List Expr} {fr : FAs}
theorem a_nil : PDas X io [] aNil := ⟨_, pa_nil, fun B G H σ ρ fp Qd Q hB R hf k => k [] ρ [] G H fp [] (Nxt.refl R) .nil (fun _ z => nomatch z) (fun _ z => nomatch z) hf⟩
theorem a_val {fe : FE} (ha : PDe X io e fe) (hr : PDas X io es fr) (hs : starEach (e :: es) X.env = (false, eval e X.env) :: starEach es X.env := by rfl) : PDas X io (e :: es) (aVal fe fr) := by
  obtain ⟨_, a1, a2⟩ := ha
  obtain ⟨_, b1, b2⟩ := hr
  refine ⟨_, pa_cons a1 b1 hs, fun B G H σ ρ fp Qd Q hB R hf k => ?_⟩
  refine a2 B G H σ ρ fp _ _ hB R hf fun x ρ1 v1 G1 H1 fp1 f1 n1 o1 t1 t1' hf => ?_
  refine b2 B G1 H1 σ ρ1 fp1 _ _ hB n1.rp hf fun xs ρ2 vs G2 H2 fp2 f2 n2 os t2 t2' q => ?_
  have o1' : OT X.K G2 H2 v1 x f1 := o1.mono n2.st.ex (fun a m o h => n2.st.keep a o (t1 a m) h) fun a m => by
    obtain ⟨⟨u, h⟩, g⟩ := o1.here a m
    exact n2.st.hid a u (t1 a m) h g
  refine k _ ρ2 _ G2 H2 fp2 (f1 ++ f2) (n1.trans n2) (.val o1' os fun a m m' => ?_) (fun a m => ?_) (fun a m => ?_) q
  · rcases t2' a m' with z | z
    · obtain ⟨⟨u, h⟩, _⟩ := o1.here a m
      rw [z] at h; cases h
    · exact t1 a m z
  · rcases List.mem_append.mp m with m | m
    · intro i
      rcases n2.inn a i with z | z
      · exact t1 a m z
      · obtain ⟨⟨u, h⟩, _⟩ := o1.here a m
        rw [z] at h; cases h
    · exact t2 a m
  · rcases List.mem_append.mp m with m | m
    · exact t1' a m
    · rcases t2' a m with z | z
      · by_cases q : In fp a
        · exact .inr q
        · exact .inl (n1.st.fresh q z)
      · exact (n1.inn a z).symm
theorem a_ref {te : TE} (i : Nat) (h : PE X e te) (ht : te = tVar i) (hr : PDas X io es fr) (hs : starEach (e :: es) X.env = (false, eval e X.env) :: starEach es X.env := by rfl) : PDas X io (e :: es) (aRef i fr) := by
  subst ht
  obtain ⟨_, b1, b2⟩ := hr
  refine ⟨_, pa_cons h b1 hs, fun B G H σ ρ fp Qd Q hB R hf k => ?_⟩
  obtain ⟨⟨t, e1⟩, hf⟩ := hf
  obtain ⟨v, e2, _⟩ := R.co.slot i t e1
  refine ⟨v, e2, ?_⟩
  exact b2 B G H σ ρ fp _ _ hB R hf fun xs ρ2 vs G2 H2 fp2 f2 n2 os t2 t2' q => k _ ρ2 _ G2 H2 fp2 f2 n2 (.ref e2 os) t2 t2' q
end
/-! the arguments as a caller's state, and back -/
@[simp] def resA (ρ : Rho) : List AV → Option (List SV)
  | [] => some []
  | .val t :: r => (resA ρ r).map (t :: ·)
  | .ref i :: r => match ρ[i]?.join, resA ρ r with
    | some t, some ts => some (t :: ts)
    | _, _ => none
@[simp] def refs : List AV → List Nat
  | [] => []
  | .val _ :: r => refs r
  | .ref i :: r => i :: refs r
@[simp] def wb (ρ : Rho) : List AV → List SV → Rho
  | .ref i :: r, t :: ts => wb (ρ.set i (some t)) r ts
  | .val _ :: r, _ :: ts => wb ρ r ts
  | _, _ => ρ
def shiftF (f : List Addr) (g : Nat → List Addr) : Nat → List Addr
  | 0 => f
  | n + 1 => g n
theorem join_some {ρ : Rho} {i : Nat} {t : SV} (h : ρ[i]?.join = some t) : ρ[i]? = some (some t) := by
  cases q : ρ[i]? with
  | none => rw [q] at h; cases h
  | some z => rw [q] at h; simp at h; rw [h]
section
variable {K : PySem.W.Frag} {B : Bs} {σ : L2.St} {G H G' H' : Hp} {ρ : Rho} {fp fp' : Nat → List Addr}
theorem wb_len : ∀ (avs : List AV) (ts : List SV) (ρ : Rho), (wb ρ avs ts).length = ρ.length
  | [], _, _ => rfl
  | .ref i :: r, [], _ => rfl
  | .val _ :: r, [], _ => rfl
  | .ref i :: r, t :: ts, ρ => by rw [wb, wb_len r ts, List.length_set]
  | .val _ :: r, t :: ts, ρ => by rw [wb, wb_len r ts]
theorem wb_out {i : Nat} : ∀ (avs : List AV) (ts : List SV) (ρ : Rho), i ∉ refs avs → (wb ρ avs ts)[i]? = ρ[i]?
  | [], _, _, _ => rfl
  | .ref j :: r, [], _, _ => rfl
  | .val _ :: r, [], _, _ => rfl
  | .ref j :: r, t :: ts, ρ, h => by
    have h1 : i ≠ j := fun e => h (by rw [e]; exact List.mem_cons_self)
    rw [wb, wb_out r ts _ fun m => h (List.mem_cons_of_mem _ m), List.getElem?_set_ne (Ne.symm h1)]
  | .val _ :: r, t :: ts, ρ, h => by rw [wb, wb_out r ts _ h]
theorem wb_in {i k : Nat} {t : SV} : ∀ (avs : List AV) (ts : List SV) (ρ : Rho), (refs avs).Nodup → avs[k]? = some (.ref i) → ts[k]? = some t → i < ρ.length → (wb ρ avs ts)[i]? = some (some t) := by
  intro avs
  induction avs generalizing k with
  | nil => intro ts ρ _ h; simp at h
  | cons a r ih =>
    intro ts ρ nd h1 h2 h3
    cases ts with
    | nil => simp at h2
    | cons u ts =>
      cases k with
      | zero =>
        simp at h1 h2
        subst h1 h2
        rw [wb, wb_out r ts _ (List.nodup_cons.mp nd).1, List.getElem?_set_self h3]
      | succ k =>
        cases a with
        | val z => rw [wb]; exact ih ts ρ nd (by simpa using h1) (by simpa using h2) h3
        | ref j => rw [wb]; exact ih ts _ (List.nodup_cons.mp nd).2 (by simpa using h1) (by simpa using h2) (by rw [List.length_set]; exact h3)
theorem refs_at {i : Nat} : ∀ {avs : List AV}, i ∈ refs avs → ∃ k : Nat, avs[k]? = some (AV.ref i)
  | [], h => by cases h
  | .val _ :: r, h => let ⟨k, e⟩ := refs_at (avs := r) h; ⟨k + 1, by simpa using e⟩
  | .ref j :: r, h => by
    rcases List.mem_cons.mp h with e | h
    · subst e; exact ⟨0, rfl⟩
    · obtain ⟨k, e⟩ := refs_at h
      exact ⟨k + 1, by simpa using e⟩
theorem refs_of {i k : Nat} : ∀ {avs : List AV}, avs[k]? = some (.ref i) → i ∈ refs avs := by
  intro avs
  induction avs generalizing k with
  | nil => intro h; simp at h
  | cons a r ih =>
    intro h
    cases k with
    | zero => simp at h; subst h; exact List.mem_cons_self
    | succ k =>
      have := ih (k := k) (by simpa using h)
      cases a with
      | val _ => exact this
      | ref _ => exact List.mem_cons_of_mem _ this
/-- the arguments -/
theorem args_co (c : Co K G H σ ρ fp) : ∀ {vs : List V} {avs : List AV} {fr : List Addr} {as : List SV}, AVR K G H σ vs avs fr → (∀ a ∈ fr, ¬ In fp a) → (refs avs).Nodup → resA ρ avs = some as →
    ∃ g, Co K G H (vs.map some) (as.map some) g ∧ (∀ (k : Nat) a, a ∈ g k → (a ∈ fr ∧ ∃ t, avs[k]? = some (.val t)) ∨ ∃ i, avs[k]? = some (.ref i) ∧ a ∈ fp i) ∧ vs.length = avs.length ∧ as.length = avs.length ∧ ∀ (k i : Nat), avs[k]? = some (.ref i) → ∃ v, vs[k]? = some v ∧ σ[i]? = some (some v)
  | _, _, _, _, .nil, _, _, e => by
    have : [] = _ := Option.some.inj e
    subst this
    exact ⟨fun _ => [], ⟨rfl, c.sub, fun i t h => by simp at h, fun _ _ => rfl, fun _ _ _ h => (by cases h)⟩, fun _ _ h => (by cases h), rfl, rfl, fun k i h => by simp at h⟩
  | _, _, _, _, .val (v := v) (t := t) (vs := vs) (as := as) (f1 := f1) (f2 := f2) o r d, ho, nd, e => by
    unfold resA at e
    cases q : resA ρ as with
    | none => rw [q] at e; cases e
    | some us =>
      rw [q] at e
      have := Option.some.inj e
      subst this
      obtain ⟨g, cg, hg, l1, l2, hr⟩ := args_co c r (fun a m => ho a (List.mem_append_right _ m)) nd q
      refine ⟨shiftF f1 g, ⟨by simp; exact l1.trans l2.symm, c.sub, fun i u h => ?_, fun i h => ?_, fun i j a h1 h2 => ?_⟩, fun k a h => ?_, congrArg (· + 1) l1, congrArg (· + 1) l2, fun k i h => ?_⟩
      · cases i with
        | zero => simp at h; subst h; exact ⟨v, rfl, o⟩
        | succ i =>
          obtain ⟨w, e1, ow⟩ := cg.slot i u (by simpa using h)
          exact ⟨w, by simpa using e1, ow⟩
      · cases i with
        | zero => exact absurd rfl (h t)
        | succ i => exact cg.nil i fun u e => h u (by simpa using e)
      · cases i with
        | zero =>
          cases j with
          | zero => rfl
          | succ j =>
            rcases hg j a h2 with ⟨m, _⟩ | ⟨i, _, m⟩
            · exact absurd m (d a h1)
            · exact absurd ⟨i, m⟩ (ho a (List.mem_append_left _ h1))
        | succ i =>
          cases j with
          | zero =>
            rcases hg i a h1 with ⟨m, _⟩ | ⟨i, _, m⟩
            · exact absurd m (d a h2)
            · exact absurd ⟨i, m⟩ (ho a (List.mem_append_left _ h2))
          | succ j => exact congrArg (· + 1) (cg.dis i j a h1 h2)
      · cases k with
        | zero => exact .inl ⟨List.mem_append_left _ h, t, rfl⟩
        | succ k =>
          rcases hg k a h with ⟨m, u, e⟩ | ⟨i, e, m⟩
          · exact .inl ⟨List.mem_append_right _ m, u, by simpa using e⟩
          · exact .inr ⟨i, by simpa using e, m⟩
      · cases k with
        | zero => simp at h
        | succ k =>
          obtain ⟨w, e1, e2⟩ := hr k i (by simpa using h)
          exact ⟨w, by simpa using e1, e2⟩
  | _, _, _, _, .ref (v := v) (i := i0) (vs := vs) (as := as) (f2 := f2) o r, ho, nd, e => by
    unfold resA at e
    cases q0 : ρ[i0]?.join with
    | none => rw [q0] at e; simp at e
    | some t =>
      cases q : resA ρ as with
      | none => rw [q0, q] at e; cases e
      | some us =>
        rw [q0, q] at e
        have := Option.some.inj e
        subst this
        have nd' : i0 ∉ refs as ∧ (refs as).Nodup := List.nodup_cons.mp nd
        obtain ⟨g, cg, hg, l1, l2, hr⟩ := args_co c r ho nd'.2 q
        obtain ⟨w, e1, ot⟩ := c.slot i0 t (join_some q0)
        rw [o] at e1
        have : v = w := by injection e1 with z; injection z
        subst this
        refine ⟨shiftF (fp i0) g, ⟨by simp; exact l1.trans l2.symm, c.sub, fun i u h => ?_, fun i h => ?_, fun i j a h1 h2 => ?_⟩, fun k a h => ?_, congrArg (· + 1) l1, congrArg (· + 1) l2, fun k i h => ?_⟩
        · cases i with
          | zero => simp at h; subst h; exact ⟨v, rfl, ot⟩
          | succ i =>
            obtain ⟨w, e1, ow⟩ := cg.slot i u (by simpa using h)
            exact ⟨w, by simpa using e1, ow⟩
        · cases i with
          | zero => exact absurd rfl (h t)
          | succ i => exact cg.nil i fun u e => h u (by simpa using e)
        · have clash : ∀ j, a ∈ g j → a ∈ fp i0 → False := fun j h2 h1 => by
            rcases hg j a h2 with ⟨m, _⟩ | ⟨i, e, m⟩
            · exact ho a m ⟨i0, h1⟩
            · have := c.dis i0 i a h1 m
              subst this
              exact nd'.1 (refs_of e)
          cases i with
          | zero =>
            cases j with
            | zero => rfl
            | succ j => exact (clash j h2 h1).elim
          | succ i =>
            cases j with
            | zero => exact (clash i h1 h2).elim
            | succ j => exact congrArg (· + 1) (cg.dis i j a h1 h2)
        · cases k with
          | zero => exact .inr ⟨i0, rfl, h⟩
          | succ k =>
            rcases hg k a h with ⟨m, u, e⟩ | ⟨i, e, m⟩
            · exact .inl ⟨m, u, by simpa using e⟩
            · exact .inr ⟨i, by simpa using e, m⟩
        · cases k with
          | zero => simp at h; subst h; exact ⟨v, rfl, o⟩
          | succ k =>
            obtain ⟨w, e1, e2⟩ := hr k i (by simpa using h)
            exact ⟨w, by simpa using e1, e2⟩
open Classical in
noncomputable def ixOf (avs : List AV) (i : Nat) : Option Nat := if h : ∃ k : Nat, avs[k]? = some (AV.ref i) then some (choose h) else none
theorem ixOf_s {avs : List AV} {i k : Nat} (h : ixOf avs i = some k) : avs[k]? = some (AV.ref i) := by
  unfold ixOf at h
  split at h
  · rename_i q
    injection h with h
    subst h
    exact Classical.choose_spec q
  · cases h
theorem ixOf_n {avs : List AV} {i : Nat} (h : ixOf avs i = none) : ¬ ∃ k : Nat, avs[k]? = some (AV.ref i) := by
  unfold ixOf at h
  split at h
  · cases h
  · assumption
/-- behind a call -/
theorem back_co {vs : List V} {avs : List AV} {fr : List Addr} {as as' : List SV} {g g' : Nat → List Addr} (R : Rp K B G H σ ρ fp) (ho : ∀ a ∈ fr, ¬ In fp a) (hfr : ∀ a ∈ fr, In B.fp0 a ∨ B.H0 a = none) (nd : (refs avs).Nodup) (ha : resA ρ avs = some as)
    (hg : ∀ (k : Nat) a, a ∈ g k → (a ∈ fr ∧ ∃ t, avs[k]? = some (AV.val t)) ∨ ∃ i, avs[k]? = some (AV.ref i) ∧ a ∈ fp i) (l2 : as.length = avs.length) (hr : ∀ (k i : Nat), avs[k]? = some (AV.ref i) → ∃ v, vs[k]? = some v ∧ σ[i]? = some (some v))
    (c' : Co K G' H' (vs.map some) (as'.map some) g') (st : Stp (In g) G H G' H') (inn : ∀ a, In g' a → In g a ∨ H a = none) (hl : as'.length = as.length) :
    ∃ fp2, Rp K B G' H' σ (wb ρ avs as') fp2 ∧ Stp (fun a => In fp a ∨ a ∈ fr) G H G' H' ∧ (∀ a, In fp2 a → In fp a ∨ H a = none ∨ a ∈ fr) ∧ ∀ a, In fp2 a → In g' a ∨ In fp a ∧ ¬ In g a := by
  have gsub : ∀ a, In g a → In fp a ∨ a ∈ fr := fun a ⟨k, m⟩ => (hg k a m).elim (fun ⟨m, _⟩ => .inr m) fun ⟨i, _, m⟩ => .inl ⟨i, m⟩
  let ix : Nat → Option Nat := ixOf avs
  have ix_s : ∀ {i k : Nat}, ix i = some k → avs[k]? = some (AV.ref i) := fun h => ixOf_s h
  have ix_n : ∀ {i}, ix i = none → i ∉ refs avs := fun h m => ixOf_n h (refs_at m)
  have as_at : ∀ {k i : Nat}, avs[k]? = some (AV.ref i) → ∃ t, as'[k]? = some t := fun {k i} h => by
    have : k < avs.length := (List.getElem?_eq_some_iff.mp h).1
    exact ⟨as'[k]'(by omega), List.getElem?_eq_getElem (by omega)⟩
  have ilt : ∀ {k i : Nat}, avs[k]? = some (AV.ref i) → i < ρ.length := fun {k i} h => by
    obtain ⟨v, _, e⟩ := hr k i h
    have := (List.getElem?_eq_some_iff.mp e).1
    rw [R.co.len] at this
    exact this
  let fp2 : Nat → List Addr := fun i => match ix i with
    | some k => g' k
    | none => fp i
  have clash : ∀ {i k a}, ix i = none → a ∈ fp i → a ∈ g k → False := fun {i k a} h m1 m2 => by
    rcases hg k a m2 with ⟨m, _⟩ | ⟨j, e, m⟩
    · exact ho a m ⟨i, m1⟩
    · have := R.co.dis i j a m1 m
      subst this
      exact ix_n h (refs_of e)
  have nin : ∀ {i a}, ix i = none → a ∈ fp i → ¬ In g a := fun h m ⟨k, m2⟩ => clash h m m2
  have here : ∀ {a}, In fp a → ∃ o, H a = some o := fun h => (R.co.here h).1
  refine ⟨fp2, ⟨⟨by rw [wb_len]; exact R.co.len, c'.sub, fun i t h => ?_, fun i h => ?_, fun i j a h1 h2 => ?_⟩, R.stp.trans (O' := fun a => In g a) st (fun a h => ?_), fun a h => ?_, fun i m => ?_, R.lo.trans st.ex⟩, ⟨st.ex, fun a o n e => st.keep a o (fun z => n (gsub a z)) e, fun a o n e g0 => st.hid a o (fun z => n (gsub a z)) e g0⟩, fun a h => ?_, fun a h => ?_⟩
  · cases q : ix i with
    | some k =>
      have hk := ix_s q
      obtain ⟨u, eu⟩ := as_at hk
      rw [wb_in avs as' ρ nd hk eu (ilt hk)] at h
      injection h with h; injection h with h
      subst h
      obtain ⟨v, e1, e2⟩ := hr k i hk
      obtain ⟨w, e3, ot⟩ := c'.slot k u (by simp [eu])
      have : w = v := by simp [e1] at e3; exact e3.symm
      subst this
      refine ⟨w, e2, ?_⟩
      simp only [fp2, q]; exact ot
    | none =>
      rw [wb_out avs as' ρ (ix_n q)] at h
      obtain ⟨v, e1, ot⟩ := R.co.slot i t h
      refine ⟨v, e1, ?_⟩
      simp only [fp2, q]
      exact ot.mono st.ex (fun a m o e => st.keep a o (nin q m) e) fun a m => by
        obtain ⟨⟨u, e⟩, g0⟩ := ot.here a m
        exact st.hid a u (nin q m) e g0
  · cases q : ix i with
    | some k =>
      have hk := ix_s q
      obtain ⟨u, eu⟩ := as_at hk
      exact absurd (wb_in avs as' ρ nd hk eu (ilt hk)) (h u)
    | none =>
      simp only [fp2, q]
      exact R.co.nil i fun t e => h t (by rw [wb_out avs as' ρ (ix_n q)]; exact e)
  · cases q1 : ix i with
    | some k =>
      simp only [fp2, q1] at h1
      cases q2 : ix j with
      | some l =>
        simp only [fp2, q2] at h2
        have := c'.dis k l a h1 h2
        subst this
        have e1 := ix_s q1
        have e2 := ix_s q2
        rw [e1] at e2
        injection e2 with e2; injection e2
      | none =>
        simp only [fp2, q2] at h2
        rcases inn a ⟨k, h1⟩ with z | z
        · exact (nin q2 h2 z).elim
        · obtain ⟨o, e⟩ := here ⟨j, h2⟩
          rw [z] at e; cases e
    | none =>
      simp only [fp2, q1] at h1
      cases q2 : ix j with
      | some l =>
        simp only [fp2, q2] at h2
        rcases inn a ⟨l, h2⟩ with z | z
        · exact (nin q1 h1 z).elim
        · obtain ⟨o, e⟩ := here ⟨i, h1⟩
          rw [z] at e; cases e
      | none =>
        simp only [fp2, q2] at h2
        exact R.co.dis i j a h1 h2
  · exact (gsub a h).elim (R.own a) (hfr a)
  · obtain ⟨i, m⟩ := h
    have old : H a = none → In B.fp0 a ∨ B.H0 a = none := fun z => by
      by_cases q : In B.fp0 a
      · exact .inl q
      · exact .inr (R.stp.fresh q z)
    cases q : ix i with
    | some k =>
      simp only [fp2, q] at m
      exact (inn a ⟨k, m⟩).elim (fun z => (gsub a z).elim (R.own a) (hfr a)) old
    | none =>
      simp only [fp2, q] at m
      exact R.own a ⟨i, m⟩
  · obtain ⟨v, t, h1, h2, h3⟩ := R.io i m
    cases q : ix i with
    | some k =>
      have hk := ix_s q
      obtain ⟨u, eu⟩ := as_at hk
      exact ⟨v, u, h1, h2, wb_in avs as' ρ nd hk eu (ilt hk)⟩
    | none => exact ⟨v, t, h1, h2, by rw [wb_out avs as' ρ (ix_n q)]; exact h3⟩
  · obtain ⟨i, m⟩ := h
    cases q : ix i with
    | some k =>
      simp only [fp2, q] at m
      rcases inn a ⟨k, m⟩ with z | z
      · exact (gsub a z).elim .inl fun z => .inr (.inr z)
      · exact .inr (.inl z)
    | none =>
      simp only [fp2, q] at m
      exact .inl ⟨i, m⟩
  · obtain ⟨i, m⟩ := h
    cases q : ix i with
    | some k =>
      simp only [fp2, q] at m
      exact .inl ⟨k, m⟩
    | none =>
      simp only [fp2, q] at m
      exact .inr ⟨⟨i, m⟩, nin q m⟩
end
/-! ### a call -/
@[simp] def fCall (F : Ctr) (fa : FAs) : FE := fun ρ Q => fa ρ fun avs ρ1 => ∃ as, resA ρ1 avs = some as ∧ (refs avs).Nodup ∧ F as fun r as' => Q r (wb ρ1 avs as')
theorem de_call {K : PySem.W.Frag} {io : List Nat} {F : Ctr} {fa : FAs} {t : TA} {E : XK} (h : DAs K io t fa) : DE K io (tCall (spD K F) [] E t) (fCall F fa) := by
  intro B G H σ ρ fp Qd Q hB R hf k
  refine h B G H σ ρ fp _ _ hB R hf fun avs ρ1 vs G1 H1 fp1 fr n1 ar t1 t2 ⟨as, ha, nd, hF⟩ => ?_
  obtain ⟨g, cg, hg, l1, l2, hr⟩ := args_co n1.rp.co ar t1 nd ha
  have hfr : ∀ a ∈ fr, In B.fp0 a ∨ B.H0 a = none := fun a m => by
    rcases t2 a m with z | z
    · by_cases q : In B.fp0 a
      · exact .inl q
      · exact .inr (R.stp.fresh q z)
    · exact R.own a z
  show spD K F (vs ++ []) H1 Q E
  rw [List.append_nil]
  refine ⟨G1, as, g, _, cg, hF, fun r as' v G' H' g' fr' c' st inn ot d1 d2 q => ?_⟩
  have hl : as'.length = as.length := by
    have e1 := c'.len
    have e2 := cg.len
    simp at e1 e2
    omega
  obtain ⟨fp2, R2, st2, in2, cl⟩ := back_co n1.rp t1 hfr nd ha hg l2 hr c' st inn hl
  have back : ∀ a, H1 a = none → H a = none ∨ In fp a := fun a z => by
    by_cases q : In fp a
    · exact .inr q
    · exact .inl (n1.st.fresh q z)
  have back1 : ∀ a, In fp1 a → H a = none ∨ In fp a := fun a z => (n1.inn a z).symm
  have old : ∀ a, In g a → In fp1 a ∨ a ∈ fr := fun a ⟨k, m⟩ => (hg k a m).elim (fun ⟨m, _⟩ => .inr m) fun ⟨i, _, m⟩ => .inl ⟨i, m⟩
  have gb : ∀ a, In g a → H a = none ∨ In fp a := fun a z => (old a z).elim (back1 a) (t2 a)
  refine k r _ v G' H' fp2 fr' ⟨R2, n1.st.trans st2 fun a z => z.elim (n1.inn a) fun z => (t2 a z).symm, fun a z => ?_⟩ ot (fun a m z => ?_) (fun a m => ?_) q
  · rcases in2 a z with z | z | z
    · exact (back1 a z).symm
    · exact (back a z).symm
    · exact (t2 a z).symm
  · rcases cl a z with z | ⟨z, nz⟩
    · exact d1 a m z
    · rcases d2 a m with y | y
      · obtain ⟨⟨o, e⟩, _⟩ := n1.rp.co.here z
        rw [y] at e; cases e
      · exact nz y
  · exact (d2 a m).elim (back a) (gb a)
section
variable {X : Cx} {io : List Nat} {x : Str} {ps : List Str} {k : Nat} {F : Ctr} {e : Expr} {es : List Expr} {fa : FAs} {p pos : Pos}
theorem e_call (h : Hs X.prog X.w X.K X.mg X.base x ps k F) (hr : RoomG k X.A) (ha : PDas X io (e :: es) fa) (hg : Gl X x := by rfl) (hdb : (x == ("__debug__" : Str)) = false := by decide)
    (he : starEach (e :: es) X.env = (false, eval e X.env) :: starEach es X.env := by rfl) (hpl : (backTo pos (starEach es X.env)).any (·.1) = false := by rfl) : PDe X io (.Call (.Name x p) (e :: es) [] pos) (fCall F fa) := by
  obtain ⟨f, fd, h1, h2, h3, h4⟩ := h
  obtain ⟨t, a1, a2⟩ := ha
  exact ⟨_, pe_callG h4 hr hg h1 h2 h3 pass0 a1 hdb he hpl, de_call a2⟩
theorem e_call0 (h : Hs X.prog X.w X.K X.mg X.base x ps k F) (hr : RoomG k X.A) (hg : Gl X x := by rfl) (hdb : (x == ("__debug__" : Str)) = false := by decide) : PDe X io (.Call (.Name x p) [] [] pos) (fCall F aNil) := by
  obtain ⟨f, fd, h1, h2, h3, h4⟩ := h
  obtain ⟨t, a1, a2⟩ := (a_nil : PDas X io [] aNil)
  refine ⟨_, pe_callG0 h4 hr hg h1 h2 h3 pass0 hdb, de_call (io := io) (fun B G H σ ρ fp Qd Q hB R hf k => k [] ρ [] G H fp [] (Nxt.refl R) .nil (fun _ z => nomatch z) (fun _ z => nomatch z) hf)⟩
end
end DL

namespace DL
open PySem PySem.Spec PyProof.Rows L2
/-! ### statements -/
structure DEnds where
  nx : Rho → Prop
  rt : SV → Rho → Prop
  bk : Rho → Prop := fun _ => False
  ct : Rho → Prop := fun _ => False
abbrev FS := DEnds → Rho → Prop
structure Sim (K : PySem.W.Frag) (B : Bs) (Dd : DEnds) (Dh : Ends) : Prop where
  nx : ∀ G H σ ρ fp, Rp K B G H σ ρ fp → Dd.nx ρ → Dh.nx σ H
  rt : ∀ G H σ ρ fp r v fr, Rp K B G H σ ρ fp → OT K G H v r fr → (∀ a ∈ fr, ¬ In fp a) → (∀ a ∈ fr, In B.fp0 a ∨ B.H0 a = none) → Dd.rt r ρ → Dh.rt v H
  bk : ∀ G H σ ρ fp, Rp K B G H σ ρ fp → Dd.bk ρ → Dh.bk σ H
  ct : ∀ G H σ ρ fp, Rp K B G H σ ρ fp → Dd.ct ρ → Dh.ct σ H
def DS (K : PySem.W.Frag) (io : List Nat) (t : TS) (fs : FS) : Prop := ∀ (B : Bs) G H σ ρ fp Dd Dh, B.io = io → Rp K B G H σ ρ fp → fs Dd ρ → Sim K B Dd Dh → t Dh σ H
def PDs (X : Cx) (io : List Nat) (st : Stmt) (fs : FS) : Prop := ∃ t, PS X st t ∧ DS X.K io t fs
def PDss (X : Cx) (io : List Nat) (st : List Stmt) (fs : FS) : Prop := ∃ t, PSs X st t ∧ DS X.K io t fs
section
variable {K : PySem.W.Frag} {B : Bs} {σ : L2.St} {G H G' H' : Hp} {ρ ρ' : Rho} {fp fp' : Nat → List Addr}
/-- what a temporary holds is new since the entry -/
theorem Rp.base (R : Rp K B G H σ ρ fp) {fr : List Addr} (h : ∀ a ∈ fr, H a = none ∨ In fp a) : ∀ a ∈ fr, In B.fp0 a ∨ B.H0 a = none := fun a m => by
  rcases h a m with z | z
  · by_cases q : In B.fp0 a
    · exact .inl q
    · exact .inr (R.stp.fresh q z)
  · exact R.own a z
/-- a tree is put into a slot -/
theorem Rp.put {i : Nat} {v : V} {t : SV} {fr : List Addr} (R : Rp K B G H σ ρ fp) (hi : i ∉ B.io) (ot : OT K G H v t fr) (h1 : ∀ a ∈ fr, ¬ In fp a) (h2 : ∀ a ∈ fr, In B.fp0 a ∨ B.H0 a = none) :
    Rp K B G H (σ.set i (some v)) (ρ.set i (some t)) (fun j => if j = i then (if i < ρ.length then fr else []) else fp j) := by
  refine ⟨⟨by rw [List.length_set, List.length_set]; exact R.co.len, R.co.sub, fun j u h => ?_, fun j h => ?_, fun j l a m1 m2 => ?_⟩, R.stp, fun a h => ?_, fun j m => ?_, R.lo⟩
  · by_cases e : j = i
    · subst e
      have hl : j < ρ.length := by
        have := (List.getElem?_eq_some_iff.mp h).1
        simpa using this
      rw [List.getElem?_set_self hl] at h
      injection h with h; injection h with h
      subst h
      exact ⟨v, List.getElem?_set_self (by rw [R.co.len]; exact hl), by simp only [if_pos hl, if_true]; exact ot⟩
    · rw [List.getElem?_set_ne (Ne.symm e)] at h
      obtain ⟨w, e1, o⟩ := R.co.slot j u h
      exact ⟨w, by rw [List.getElem?_set_ne (Ne.symm e)]; exact e1, by simp only [if_neg e]; exact o⟩
  · by_cases e : j = i
    · subst e
      simp only [if_true]
      by_cases hl : j < ρ.length
      · exact absurd (List.getElem?_set_self hl) (h t)
      · exact if_neg hl
    · simp only [if_neg e]
      exact R.co.nil j fun u q => h u (by rw [List.getElem?_set_ne (Ne.symm e)]; exact q)
  · have get : ∀ {j}, a ∈ (if j = i then (if i < ρ.length then fr else []) else fp j) → (j = i ∧ a ∈ fr) ∨ (j ≠ i ∧ a ∈ fp j) := fun {j} m => by
      by_cases e : j = i
      · rw [if_pos e] at m
        by_cases hl : i < ρ.length
        · rw [if_pos hl] at m; exact .inl ⟨e, m⟩
        · rw [if_neg hl] at m; cases m
      · rw [if_neg e] at m; exact .inr ⟨e, m⟩
    rcases get m1 with ⟨e1, m1⟩ | ⟨e1, m1⟩
    · rcases get m2 with ⟨e2, m2⟩ | ⟨e2, m2⟩
      · rw [e1, e2]
      · exact absurd ⟨l, m2⟩ (h1 a m1)
    · rcases get m2 with ⟨e2, m2⟩ | ⟨e2, m2⟩
      · exact absurd ⟨j, m1⟩ (h1 a m2)
      · exact R.co.dis j l a m1 m2
  · obtain ⟨j, m⟩ := h
    by_cases e : j = i
    · simp only [if_pos e] at m
      by_cases hl : i < ρ.length
      · rw [if_pos hl] at m; exact h2 a m
      · rw [if_neg hl] at m; cases m
    · simp only [if_neg e] at m
      exact R.own a ⟨j, m⟩
  · obtain ⟨w, u, e1, e2, e3⟩ := R.io j m
    have ne : i ≠ j := fun e => hi (e ▸ m)
    exact ⟨w, u, e1, by rw [List.getElem?_set_ne ne]; exact e2, by rw [List.getElem?_set_ne ne]; exact e3⟩
theorem Rp.putD {i : Nat} {v : V} {d : DD} (R : Rp K B G H σ ρ fp) (hi : i ∉ B.io) (r : Rq K G v d) : ∃ fp', Rp K B G H (σ.set i (some v)) (ρ.set i (some (.dat d))) fp' :=
  ⟨_, R.put hi (.dat r) (fun _ z => nomatch z) (fun _ z => nomatch z)⟩
end
section
variable {X : Cx} {io : List Nat} {e : Expr} {pos : Pos} {st : Stmt} {rest : List Stmt} {f g : FS}
@[simp] def fNext : FS := fun D ρ => D.nx ρ
@[simp] def fSeq (f g : FS) : FS := fun D ρ => f { D with nx := g D } ρ
theorem ds_next : DS X.K io tNext fNext := fun B G H σ ρ fp Dd Dh hB R hf s => s.nx _ _ _ _ _ R hf
theorem ss_nil : PDss X io [] fNext := ⟨_, pss_nil, ds_next⟩
theorem ss_cons (h1 : PDs X io st f) (h2 : PDss X io rest g) : PDss X io (st :: rest) (fSeq f g) := by
  obtain ⟨t, a1, a2⟩ := h1
  obtain ⟨u, b1, b2⟩ := h2
  exact ⟨_, pss_cons a1 b1, fun B G H σ ρ fp Dd Dh hB R hf s => a2 B G H σ ρ fp _ _ hB R hf ⟨fun G H σ ρ fp R q => b2 B G H σ ρ fp Dd Dh hB R q s, s.rt, s.bk, s.ct⟩⟩
theorem ss_one (h1 : PDs X io st f) : PDss X io [st] f := let ⟨_, a1, a2⟩ := h1; ⟨_, pss_one a1, a2⟩
theorem s_pass : PDs X io (.Pass pos) fNext := ⟨_, ps_pass, ds_next⟩
@[simp] def fBrk : FS := fun D ρ => D.bk ρ
@[simp] def fCont : FS := fun D ρ => D.ct ρ
theorem s_brk : PDs X io (.Break pos) fBrk := ⟨_, ps_break, fun B G H σ ρ fp Dd Dh hB R hf s => s.bk _ _ _ _ _ R hf⟩
theorem s_cont : PDs X io (.Continue pos) fCont := ⟨_, ps_continue, fun B G H σ ρ fp Dd Dh hB R hf s => s.ct _ _ _ _ _ R hf⟩
@[simp] def fNever : FS := fun _ _ => False
theorem s_never : PDs X io st fNever := ⟨_, ps_never, fun B G H σ ρ fp Dd Dh hB R hf s => hf.elim⟩
theorem s_doc {x : Str} {j : Nat} {pos' : Pos} : PDs X io (.Expr (.Constant (.str x) j pos) pos') fNext := ⟨_, ps_doc, ds_next⟩
@[simp] def fDrop (fe : FE) : FS := fun D ρ => fe ρ fun _ ρ1 => D.nx ρ1
theorem s_expr {fe : FE} (h : PDe X io e fe) (hs : swapsWith e none pos.line X.env = pure false := by rfl) : PDs X io (.Expr e pos) (fDrop fe) := by
  obtain ⟨t, a1, a2⟩ := h
  exact ⟨_, ps_expr a1 hs, fun B G H σ ρ fp Dd Dh hB R hf s => a2 B G H σ ρ fp _ _ hB R hf fun r ρ' v G' H' fp' fr n ot t1 t2 q => s.nx _ _ _ _ _ n.rp q⟩
@[simp] def fRet (fe : FE) : FS := fun D ρ => fe ρ D.rt
theorem s_ret {fe : FE} (h : PDe X io e fe) : PDs X io (.Return (some e) pos) (fRet fe) := by
  obtain ⟨t, a1, a2⟩ := h
  exact ⟨_, ps_ret a1, fun B G H σ ρ fp Dd Dh hB R hf s => a2 B G H σ ρ fp _ _ hB R hf fun r ρ' v G' H' fp' fr n ot t1 t2 q => s.rt _ _ _ _ _ _ _ _ n.rp ot t1 (R.base t2) q⟩
@[simp] def fRetN : FS := fun D ρ => D.rt (.dat .non) ρ
theorem s_retN : PDs X io (.Return none pos) fRetN := ⟨_, ps_retN, fun B G H σ ρ fp Dd Dh hB R hf s => s.rt _ _ _ _ _ _ _ [] R (.dat .non) (fun _ z => nomatch z) (fun _ z => nomatch z) hf⟩
@[simp] def fIf (c : FT) (f g : FS) : FS := fun D ρ => c ρ fun b ρ1 => if b = true then f D ρ1 else g D ρ1
theorem s_if {c : Expr} {a b : List Stmt} {fc : FT} (hc : PDt X io c fc) (ha : PDss X io a f) (hb : PDss X io b g) : PDs X io (.If c a b pos) (fIf fc f g) := by
  obtain ⟨_, c1, c2⟩ := hc
  obtain ⟨_, a1, a2⟩ := ha
  obtain ⟨_, b1, b2⟩ := hb
  refine ⟨_, ps_if c1 a1 b1, fun B G H σ ρ fp Dd Dh hB R hf s => ?_⟩
  refine c2 B G H σ ρ fp _ _ hB R hf fun b ρ1 G1 H1 fp1 n q => ?_
  cases b with
  | true => exact a2 B G1 H1 σ ρ1 fp1 Dd Dh hB n.rp q s
  | false => exact b2 B G1 H1 σ ρ1 fp1 Dd Dh hB n.rp q s
/-! x = e -/
@[simp] def fSet (io : List Nat) (i : Nat) (fe : FE) : FS := fun D ρ => fe ρ fun r ρ1 => i ∉ io ∧ D.nx (ρ1.set i (some r))
theorem ds_set {te : TE} {fe : FE} {i : Nat} (h : DE X.K io te fe) : DS X.K io (tAsg te (gName i)) (fSet io i fe) := by
  intro B G H σ ρ fp Dd Dh hB R hf s
  refine h B G H σ ρ fp _ _ hB R hf fun r ρ' v G' H' fp' fr n ot t1 t2 ⟨hi, q⟩ => ?_
  exact s.nx _ _ _ _ _ (n.rp.put (by rw [hB]; exact hi) ot t1 (R.base t2)) q
theorem s_set {i : Nat} {x : Str} {fe : FE} {pos' : Pos} (hN : X.N.Nodup) (h : PDe X io e fe) (hi : X.N[i]? = some x := by rfl) (hx : Loc X.env.scope x := by first | exact Or.inl rfl | exact Or.inr rfl)
    (hs : swapsWith e (some (.Name x pos')) pos.line X.env = pure false := by rfl) (hf : X.fn x = true ∨ X.env.scope.names.lookup x = some .local := by first | exact .inl rfl | exact .inr rfl) : PDs X io (.Assign [.Name x pos'] e pos) (fSet io i fe) := by
  obtain ⟨_, a1, a2⟩ := h
  exact ⟨_, ps_set hN hi hx a1 hs hf, ds_set a2⟩
/-! targets -/
abbrev FG := DD → Rho → (Rho → Prop) → Prop
abbrev FGs := List DD → Rho → (Rho → Prop) → Prop
/-- ks: the slots that are stored -/
def DG (K : PySem.W.Frag) (io ks : List Nat) (g : TG) (fg : FG) : Prop := ∀ (B : Bs) G H σ ρ fp v d (Qd : Rho → Prop) (Q : L2.St → Hp → Prop), B.io = io → Rp K B G H σ ρ fp → Rq K G v d → fg d ρ Qd →
  (∀ σ' ρ' fp', Rp K B G H σ' ρ' fp' → (∀ a, In fp' a → In fp a) → (σ'.length = σ.length ∧ ∀ j, j ∉ ks → σ'[j]? = σ[j]?) → Qd ρ' → Q σ' H) → g v σ H Q
def DGs (K : PySem.W.Frag) (io ks : List Nat) (g : TGs) (fg : FGs) : Prop := ∀ (B : Bs) G H σ ρ fp v d (Qd : Rho → Prop) (Q : L2.St → Hp → Prop), B.io = io → Rp K B G H σ ρ fp → RqA K G v d → fg d ρ Qd →
  (∀ σ' ρ' fp', Rp K B G H σ' ρ' fp' → (∀ a, In fp' a → In fp a) → (σ'.length = σ.length ∧ ∀ j, j ∉ ks → σ'[j]? = σ[j]?) → Qd ρ' → Q σ' H) → g v σ H Q
def PDg (X : Cx) (io ks : List Nat) (e : Expr) (fg : FG) : Prop := ∃ g, PG X e g ∧ DG X.K io ks g fg
def PDgs (X : Cx) (io ks : List Nat) (es : List Expr) (fg : FGs) : Prop := ∃ g, PGs X es g ∧ DGs X.K io ks g fg
@[simp] def gSet (io : List Nat) (i : Nat) : FG := fun d ρ Q => i ∉ io ∧ Q (ρ.set i (some (.dat d)))
theorem t_name {i : Nat} {x : Str} (hN : X.N.Nodup) (hi : X.N[i]? = some x := by rfl) (hx : Loc X.env.scope x := by first | exact Or.inl rfl | exact Or.inr rfl) (hf : X.fn x = true ∨ X.env.scope.names.lookup x = some .local := by first | exact .inl rfl | exact .inr rfl) : PDg X io [i] (.Name x pos) (gSet io i) := by
  refine ⟨_, pg_name (i := i) hN hi hx hf, fun B G H σ ρ fp v d Qd Q hB R r ⟨h, q⟩ k => ?_⟩
  refine k _ _ _ (R.put (i := i) (by rw [hB]; exact h) (.dat r) (fun _ z => nomatch z) (fun _ z => nomatch z)) (fun a ⟨j, m⟩ => ?_) ⟨List.length_set, fun j hj => ?_⟩ q
  · by_cases e : j = i
    · simp [e] at m
    · simp only [if_neg e] at m
      exact ⟨j, m⟩
  · rw [List.getElem?_set_ne fun e => hj (by rw [e]; exact List.mem_cons_self)]
@[simp] def gsNil : FGs := fun ds ρ Q => ds = [] ∧ Q ρ
@[simp] def gsCons (g : FG) (gs : FGs) : FGs := fun ds ρ Q => ∃ d r, ds = d :: r ∧ g d ρ fun ρ1 => gs r ρ1 Q
theorem ts_nil : PDgs X io [] [] gsNil := ⟨_, pgs_nil, fun B G H σ ρ fp v d Qd Q hB R r ⟨h, q⟩ k => by
  subst h
  cases r
  exact ⟨rfl, k _ _ _ R (fun _ h => h) ⟨rfl, fun _ _ => rfl⟩ q⟩⟩
theorem ts_cons {es : List Expr} {ks ks' : List Nat} {g : FG} {gs : FGs} (h1 : PDg X io ks e g) (h2 : PDgs X io ks' es gs) (hs : (assignEach (e :: es) X.env).map (·.2) = assign e X.env :: (assignEach es X.env).map (·.2) := by rfl) : PDgs X io (ks ++ ks') (e :: es) (gsCons g gs) := by
  obtain ⟨_, a1, a2⟩ := h1
  obtain ⟨_, b1, b2⟩ := h2
  refine ⟨_, pgs_cons a1 b1 hs, fun B G H σ ρ fp v d Qd Q hB R r ⟨d0, dr, ed, q⟩ k => ?_⟩
  subst ed
  cases r with
  | cons r0 rr =>
    refine ⟨_, _, rfl, ?_⟩
    exact a2 B G H σ ρ fp _ _ _ _ hB R r0 q fun σ1 ρ1 fp1 R1 i1 s1 q1 => b2 B G H σ1 ρ1 fp1 _ _ _ _ hB R1 rr q1 fun σ2 ρ2 fp2 R2 i2 s2 q2 =>
      k σ2 ρ2 fp2 R2 (fun a h => i1 a (i2 a h)) ⟨s2.1.trans s1.1, fun j hj => (s2.2 j fun m => hj (List.mem_append_right _ m)).trans (s1.2 j fun m => hj (List.mem_append_left _ m))⟩ q2
@[simp] def gTupD (n : Nat) (gs : FGs) : FG := fun d ρ Q => ∃ ds, d = .tup ds ∧ ds.length = n ∧ gs ds ρ Q
theorem t_tup {es : List Expr} {ks : List Nat} {k n : Nat} {gs : FGs} (hc : X.calm = true) (h : PDgs X io ks es gs) (hn : (assignEach es X.env).length = n := by rfl) (hst : (assignEach es X.env).findIdx? (·.1) = none := by rfl) : PDg X io ks (.Tuple es k pos) (gTupD n gs) := by
  obtain ⟨_, a1, a2⟩ := h
  refine ⟨_, pg_tup hc a1 hn hst, fun B G H σ ρ fp v d Qd Q hB R r ⟨ds, ed, hl, q⟩ k => ?_⟩
  subst ed
  obtain ⟨a, xs, ev, hs, rs⟩ := r.tup_inv
  exact ⟨a, xs, ev, R.co.sub.t hs, by rw [rs.length]; exact hl, a2 B G H σ ρ fp _ _ _ _ hB R rs q k⟩
@[simp] def fAsg (fv : FV) (fg : FG) : FS := fun D ρ => fv ρ fun d ρ1 => fg d ρ1 D.nx
theorem s_asg {tg : Expr} {ks : List Nat} {fv : FV} {fg : FG} (h : PDv X io e fv) (hg : PDg X io ks tg fg) (hs : swapsWithSole [tg] e pos.line X.env = pure false := by rfl) (hw : swappedStores [tg] e X.env = pure none := by rfl)
    (h1 : (assignEach [tg] X.env).map (·.2) = [assign tg X.env] := by rfl) : PDs X io (.Assign [tg] e pos) (fAsg fv fg) := by
  obtain ⟨_, a1, a2⟩ := h
  obtain ⟨_, b1, b2⟩ := hg
  refine ⟨_, ps_asg a1 b1 hs hw h1, fun B G H σ ρ fp Dd Dh hB R hf s => ?_⟩
  refine a2 B G H σ ρ fp _ _ hB R hf fun d ρ1 v G1 H1 fp1 n r q => ?_
  exact b2 B G1 H1 σ ρ1 fp1 v d _ _ hB n.rp r q fun σ' ρ' fp' R' _ _ q' => s.nx _ _ _ _ _ R' q'
/-- a, b = x, y -/
@[simp] def fPar (io : List Nat) (i j : Nat) (fs : FSs) : FS := fun D ρ => fs ρ fun ts ρ1 => ∃ t u, ts = [t, u] ∧ i ∉ io ∧ j ∉ io ∧ D.nx ((ρ1.set i (some t)).set j (some u))
theorem OTs.two {K : PySem.W.Frag} {G H : Hp} {vs : List V} {t u : SV} {fr : List Addr} (h : OTs K G H vs [t, u] fr) : ∃ v w f1 f2, vs = [v, w] ∧ OT K G H v t f1 ∧ OT K G H w u f2 ∧ (∀ a ∈ f1, a ∉ f2) ∧ (∀ a ∈ f1, a ∈ fr) ∧ ∀ a ∈ f2, a ∈ fr := by
  cases h with
  | cons a b d =>
    cases b with
    | cons b c d2 =>
      cases c
      exact ⟨_, _, _, _, rfl, a, b, fun x m m' => d x m (List.mem_append_left _ m'), fun x m => List.mem_append_left _ m, fun x m => List.mem_append_right _ (List.mem_append_left _ m)⟩
theorem s_par {i j : Nat} {x y : Str} {a b : Expr} {fs : FSs} {px py pt : Pos} {kt k2 : Nat} {pt2 : Pos} (hc : X.calm = true) (hN : X.N.Nodup) (h : PDs' X io [a, b] fs) (hi : X.N[i]? = some x := by rfl) (hj : X.N[j]? = some y := by rfl) (hij : i ≠ j := by decide)
    (hx : X.env.scope.names.lookup x = some .local := by rfl) (hy : X.env.scope.names.lookup y = some .local := by rfl)
    (hw : swappedStores [.Tuple [.Name x px, .Name y py] kt pt] (.Tuple [a, b] k2 pt2) X.env = pure (some [x, y]) := by rfl)
    (hs : swapsWithSole [.Tuple [.Name x px, .Name y py] kt pt] (.Tuple [a, b] k2 pt2) pos.line X.env = pure false := by rfl) :
    PDs X io (.Assign [.Tuple [.Name x px, .Name y py] kt pt] (.Tuple [a, b] k2 pt2) pos) (fPar io i j fs) := by
  obtain ⟨_, a1, a2⟩ := h
  refine ⟨_, ps_par hc hN hi hj hij hx hy a1 hw hs, fun B G H σ ρ fp Dd Dh hB R hf s => ?_⟩
  refine a2 B G H σ ρ fp _ _ hB R hf fun ts ρ1 vs G1 H1 fp1 fr n os t1 t2 ⟨t, u, et, hi', hj', q⟩ => ?_
  subst et
  obtain ⟨v, w, f1, f2, ev, o1, o2, d12, in1, in2⟩ := os.two
  have hb := R.base t2
  have R1 := n.rp.put (i := i) (by rw [hB]; exact hi') o1 (fun a m => t1 a (in1 a m)) (fun a m => hb a (in1 a m))
  have R2 := R1.put (i := j) (by rw [hB]; exact hj') o2 (fun a m ⟨l, z⟩ => by
    by_cases e : l = i
    · simp only [if_pos e] at z
      by_cases hl : i < ρ1.length
      · rw [if_pos hl] at z; exact d12 a z m
      · rw [if_neg hl] at z; cases z
    · simp only [if_neg e] at z
      exact t1 a (in2 a m) ⟨l, z⟩) (fun a m => hb a (in2 a m))
  exact ⟨v, w, ev, s.nx _ _ _ _ _ R2 q⟩
/-! x op= e (ints) -/
@[simp] def fAug (io : List Nat) (i : Nat) (fv : FV) (op : Int → Int → Int) : FS := fun D ρ => ∃ n, ρ[i]? = some (some (.dat (.int n))) ∧ fv ρ fun d ρ1 => ∃ m, d = .int m ∧ i ∉ io ∧ D.nx (ρ1.set i (some (.dat (.int (op n m)))))
theorem s_aug {i : Nat} {x : Str} {fv : FV} {op : Operator} {g : Int → Int → Int} {pos' : Pos} (hp : PIp X op (ipI g)) (hN : X.N.Nodup) (h : PDv X io e fv) (hi : X.N[i]? = some x := by rfl) (hx : Loc X.env.scope x := by first | exact Or.inl rfl | exact Or.inr rfl)
    (hf : X.fn x = true ∨ X.env.scope.names.lookup x = some .local := by first | exact .inl rfl | exact .inr rfl) : PDs X io (.AugAssign (.Name x pos') op e pos) (fAug io i fv g) := by
  obtain ⟨_, a1, a2⟩ := h
  refine ⟨_, ps_aug hN hi hx a1 hp hf, fun B G H σ ρ fp Dd Dh hB R hf s => ?_⟩
  obtain ⟨n, e1, hf⟩ := hf
  obtain ⟨v, e2, ot⟩ := R.co.slot i _ e1
  obtain ⟨rv, _⟩ := ot.dat_inv
  have := rv.int_inv
  subst this
  refine ⟨_, e2, a2 B G H σ ρ fp _ _ hB R hf fun d ρ1 v1 G1 H1 fp1 nx r ⟨m, ed, hio, q⟩ => ?_⟩
  subst ed
  obtain ⟨fp', R'⟩ := nx.rp.putD (i := i) (v := .int (g n m)) (by rw [hB]; exact hio) (.int _)
  exact ⟨n, m, rfl, r.int_inv, s.nx _ _ _ _ _ R' q⟩
/-! while -/
def fWhile (c : FT) (f : FS) : FS := fun D ρ => ∃ W : Nat → Rho → Prop, (∃ m, W m ρ) ∧ ∀ m ρ, W m ρ → c ρ fun b ρ1 => if b = true then f { D with nx := fun ρ' => ∃ m', m' < m ∧ W m' ρ', ct := fun ρ' => ∃ m', m' < m ∧ W m' ρ', bk := D.nx } ρ1 else D.nx ρ1
theorem s_while {c : Expr} {body : List Stmt} {fc : FT} (hp : PassesOwn (model X.prog X.w) X.A X.env X.xe) (hc : PDt X io c fc) (hb : PDss X io body f) : PDs X io (.While c body [] pos) (fWhile fc f) := by
  obtain ⟨_, c1, c2⟩ := hc
  obtain ⟨_, a1, a2⟩ := hb
  refine ⟨_, ps_while hp c1 a1, fun B G H σ ρ fp Dd Dh hB R hf s => ?_⟩
  obtain ⟨W, ⟨m0, w0⟩, hW⟩ := hf
  refine ⟨fun m σ H => ∃ G ρ fp, Rp X.K B G H σ ρ fp ∧ W m ρ, ⟨m0, G, ρ, fp, R, w0⟩, ?_⟩
  rintro m σ1 H1 ⟨G1, ρ1, fp1, R1, w1⟩
  refine c2 B G1 H1 σ1 ρ1 fp1 _ _ hB R1 (hW m ρ1 w1) fun b ρ2 G2 H2 fp2 n2 q => ?_
  cases b with
  | true =>
    rw [if_pos rfl] at q ⊢
    refine ⟨fun σ H => ∃ G ρ fp, Rp X.K B G H σ ρ fp ∧ ∃ m', m' < m ∧ W m' ρ, fun σ' H' ⟨G', ρ', fp', R', m', hm, w'⟩ => ⟨m', hm, G', ρ', fp', R', w'⟩, ?_⟩
    · exact a2 B G2 H2 σ1 ρ2 fp2 _ _ hB n2.rp q ⟨fun G H σ ρ fp R z => ⟨G, ρ, fp, R, z⟩, s.rt, fun G H σ ρ fp R z => s.nx G H σ ρ fp R z, fun G H σ ρ fp R z => ⟨G, ρ, fp, R, z⟩⟩
  | false =>
    rw [if_neg Bool.false_ne_true] at q ⊢
    exact s.nx _ _ _ _ _ n2.rp q
/-! for: what is walked -/
abbrev FI := Rho → (List DD → Rho → Prop) → Prop
/-- an iterator over told items -/
def DJ (K : PySem.W.Frag) (J : It) (G : Hp) (ds : List DD) : Prop := ∀ (B : Bs) (i : Nat) G' H' σ ρ fp, Sub G G' → Rp K B G' H' σ ρ fp →
  (ds.length ≤ i → J.stop i H') ∧ ∀ d, ds[i]? = some d → J.go i H' ∧ ∀ x H'', J.yld i H' x H'' → ∃ G'', Nxt K B σ G' H' fp G'' H'' ρ fp ∧ Rq K G'' x d
def DI (K : PySem.W.Frag) (io : List Nat) (wi : TI) (fi : FI) : Prop := ∀ (B : Bs) G H σ ρ fp (Qd : List DD → Rho → Prop) (R : It → Hp → Prop), B.io = io → Rp K B G H σ ρ fp → fi ρ Qd →
  (∀ ds ρ' J G' H' fp', Nxt K B σ G H fp G' H' ρ' fp' → DJ K J G' ds → Qd ds ρ' → R J H') → wi σ H R
def PDi (X : Cx) (io : List Nat) (tg e : Expr) (fi : FI) : Prop := ∃ wi, PI X tg e wi ∧ DI X.K io wi fi
end
end DL

namespace DL
open PySem PySem.Spec PyProof.Rows L2
section
variable {K : PySem.W.Frag} {G : Hp}
theorem dj_list {a : Addr} {xs : List V} {ds : List DD} (h : Rd G a (.lst xs)) (r : RqA K G xs ds) : DJ K (Itl K a) G ds := fun B i G' H' σ ρ fp s R => by
  have hl : SqL K H' a xs := .inl (R.co.sub.rd (s.rd h))
  refine ⟨fun le => ⟨xs, hl, by rw [r.length]; exact le⟩, fun d e => ?_⟩
  obtain ⟨v, ev, rv⟩ := r.get e
  refine ⟨⟨xs, v, hl, ev⟩, fun x H'' y => ?_⟩
  obtain ⟨rfl, y⟩ := y
  have := y xs hl
  rw [ev] at this
  injection this with this
  subst this
  exact ⟨G', Nxt.refl R, rv.mono s⟩
theorem dj_tup {a : Addr} {xs : List V} {ds : List DD} (h : SqT K G a xs) (r : RqA K G xs ds) : DJ K (Itt K a) G ds := fun B i G' H' σ ρ fp s R => by
  have hl : SqT K H' a xs := R.co.sub.t (s.t h)
  refine ⟨fun le => ⟨xs, hl, by rw [r.length]; exact le⟩, fun d e => ?_⟩
  obtain ⟨v, ev, rv⟩ := r.get e
  refine ⟨⟨xs, v, hl, ev⟩, fun x H'' y => ?_⟩
  obtain ⟨rfl, y⟩ := y
  have := y xs hl
  rw [ev] at this
  injection this with this
  subst this
  exact ⟨G', Nxt.refl R, rv.mono s⟩
def rgD (lo c : Int) (n : Nat) : List DD := (List.range n).map fun (i : Nat) => DD.int (lo + ((i : Nat) : Int) * c)
theorem dj_rangeC {lo c : Int} {n : Nat} : DJ K (Itc lo c n) G (rgD lo c n) := fun B i G' H' σ ρ fp s R => by
  refine ⟨fun le => by simpa [rgD, Itc] using le, fun d e => ?_⟩
  have hi : i < n := by
    have := (List.getElem?_eq_some_iff.mp e).1
    simpa [rgD] using this
  have ed : d = .int (lo + (i : Int) * c) := by
    simp [rgD, List.getElem?_map, List.getElem?_range hi] at e
    exact e.symm
  refine ⟨hi, fun x H'' y => ?_⟩
  obtain ⟨rfl, rfl⟩ := y
  exact ⟨G', Nxt.refl R, by rw [ed]; exact .int _⟩
theorem dj_range {lo : Int} {n : Nat} : DJ K (Itr lo n) G (rgD lo 1 n) := fun B i G' H' σ ρ fp s R => by
  refine ⟨fun le => by simpa [rgD, Itr] using le, fun d e => ?_⟩
  have hi : i < n := by
    have := (List.getElem?_eq_some_iff.mp e).1
    simpa [rgD] using this
  have ed : d = .int (lo + (i : Int)) := by
    simp [rgD, List.getElem?_map, List.getElem?_range hi] at e
    exact e.symm
  refine ⟨hi, fun x H'' y => ?_⟩
  obtain ⟨rfl, rfl⟩ := y
  exact ⟨G', Nxt.refl R, by rw [ed]; exact .int _⟩
def strD (x : Str) : List DD := x.cps.toList.map fun c => DD.str ⟨#[c]⟩
theorem dj_str {x : Str} : DJ K (Its x) G (strD x) := fun B i G' H' σ ρ fp s R => by
  refine ⟨fun le => by simpa [strD, Its] using le, fun d e => ?_⟩
  have hi : i < x.cps.size := by
    have := (List.getElem?_eq_some_iff.mp e).1
    simpa [strD] using this
  have ed : d = .str ⟨#[x.cps[i]]⟩ := by
    simp [strD, List.getElem?_map, hi] at e
    exact e.symm
  refine ⟨hi, fun y H'' h => ?_⟩
  obtain ⟨rfl, c, ec, rfl⟩ := h
  have : c = x.cps[i] := by simp [hi] at ec; exact ec.symm
  subst this
  exact ⟨G', Nxt.refl R, by rw [ed]; exact .str _⟩
def enumD (ds : List DD) : List DD := ds.zipIdx.map fun p => DD.tup [.int (p.2 : Nat), p.1]
theorem enumD_get {ds : List DD} {i : Nat} {d : DD} (e : (enumD ds)[i]? = some d) : ∃ z, ds[i]? = some z ∧ d = .tup [.int (i : Nat), z] := by
  unfold enumD at e
  rw [List.getElem?_map, List.getElem?_zipIdx] at e
  cases q : ds[i]? with
  | none => rw [q] at e; cases e
  | some z => rw [q] at e; simp at e; exact ⟨z, rfl, e.symm⟩
@[simp] theorem enumD_len (ds : List DD) : (enumD ds).length = ds.length := by simp [enumD]
theorem dj_enum {a : Addr} {xs : List V} {ds : List DD} (h : Rd G a (.lst xs)) (r : RqA K G xs ds) : DJ K (Ite K a) G (enumD ds) := fun B i G' H' σ ρ fp s R => by
  have hl : SqL K H' a xs := .inl (R.co.sub.rd (s.rd h))
  refine ⟨fun le => ⟨xs, hl, by rw [r.length]; rw [enumD_len] at le; exact le⟩, fun d e => ?_⟩
  obtain ⟨z, ez, rfl⟩ := enumD_get e
  obtain ⟨v, ev, rv⟩ := r.get ez
  refine ⟨⟨xs, v, hl, ev⟩, fun x H'' y => ?_⟩
  obtain ⟨T, w, rfl, hT, rfl, y⟩ := y
  have := y xs hl
  rw [ev] at this
  injection this with this
  subst this
  have n := Nxt.stand R (o := .tup [.int (i : Nat), v]) hT
  exact ⟨_, n, .tup (.inl (.inl upd_same)) (.cons (.int _) (.cons ((rv.mono s).mono n.st.ex) .nil))⟩
def zipD (xs ys : List DD) : List DD := (xs.zip ys).map fun p => DD.tup [p.1, p.2]
theorem zipD_get {xs ys : List DD} {i : Nat} {d : DD} (e : (zipD xs ys)[i]? = some d) : ∃ x y, xs[i]? = some x ∧ ys[i]? = some y ∧ d = .tup [x, y] := by
  unfold zipD at e
  rw [List.getElem?_map] at e
  cases q : (xs.zip ys)[i]? with
  | none => rw [q] at e; cases e
  | some z =>
    rw [q] at e
    obtain ⟨h1, h2⟩ := List.getElem?_zip_eq_some.mp q
    exact ⟨z.1, z.2, h1, h2, by simp at e; exact e.symm⟩
theorem zipD_len (xs ys : List DD) : (zipD xs ys).length = min xs.length ys.length := by simp [zipD]
theorem dj_zip {a b : Addr} {xs ys : List V} {ds es : List DD} (h : Rd G a (.lst xs)) (r : RqA K G xs ds) (h2 : Rd G b (.lst ys)) (r2 : RqA K G ys es) : DJ K (Itz K a b) G (zipD ds es) := fun B i G' H' σ ρ fp s R => by
  have hl : SqL K H' a xs := .inl (R.co.sub.rd (s.rd h))
  have hl2 : SqL K H' b ys := .inl (R.co.sub.rd (s.rd h2))
  refine ⟨fun le => ⟨xs, ys, hl, hl2, by rw [r.length, r2.length]; rw [zipD_len] at le; omega⟩, fun d e => ?_⟩
  obtain ⟨x, y, ex, ey, rfl⟩ := zipD_get e
  obtain ⟨v, ev, rv⟩ := r.get ex
  obtain ⟨w, ew, rw'⟩ := r2.get ey
  refine ⟨⟨xs, ys, v, w, hl, hl2, ev, ew⟩, fun x H'' q => ?_⟩
  obtain ⟨T, v', w', rfl, hT, rfl, q1, q2⟩ := q
  have e1 := q1 xs hl
  have e2 := q2 ys hl2
  rw [ev] at e1
  rw [ew] at e2
  injection e1 with e1
  injection e2 with e2
  subst e1 e2
  have n := Nxt.stand R (o := .tup [v, w]) hT
  exact ⟨_, n, .tup (.inl (.inl upd_same)) (.cons ((rv.mono s).mono n.st.ex) (.cons ((rw'.mono s).mono n.st.ex) .nil))⟩
end
section
variable {X : Cx} {io : List Nat} {e a b c tg : Expr} {pos p : Pos} {fv : FV} {fos : FOs}
/-- a list, a tuple, a text -/
@[simp] def iLst (fv : FV) : FI := fun ρ Q => fv ρ fun d ρ1 => ∃ ds, d = .lst ds ∧ Q ds ρ1
@[simp] def iTpl (fv : FV) : FI := fun ρ Q => fv ρ fun d ρ1 => ∃ ds, d = .tup ds ∧ Q ds ρ1
@[simp] def iStrD (fv : FV) : FI := fun ρ Q => fv ρ fun d ρ1 => ∃ x, d = .str x ∧ Q (strD x) ρ1
theorem i_lst (h : PDv X io e fv) : PDi X io tg e (iLst fv) := by
  obtain ⟨_, a1, a2⟩ := h
  refine ⟨_, pi_list a1, fun B G H σ ρ fp Qd Rr hB R hf k => ?_⟩
  refine a2 B G H σ ρ fp _ _ hB R hf fun d ρ1 v G1 H1 fp1 n r ⟨ds, ed, q⟩ => ?_
  subst ed
  obtain ⟨p, xs, ev, h, rs⟩ := r.lst_inv
  exact ⟨p, ev, ⟨xs, .inl (n.rp.co.sub.rd h)⟩, k _ _ _ _ _ _ n (dj_list h rs) q⟩
theorem i_tpl (h : PDv X io e fv) : PDi X io tg e (iTpl fv) := by
  obtain ⟨_, a1, a2⟩ := h
  refine ⟨_, pi_tup a1, fun B G H σ ρ fp Qd Rr hB R hf k => ?_⟩
  refine a2 B G H σ ρ fp _ _ hB R hf fun d ρ1 v G1 H1 fp1 n r ⟨ds, ed, q⟩ => ?_
  subst ed
  obtain ⟨p, xs, ev, h, rs⟩ := r.tup_inv
  exact ⟨p, ev, ⟨xs, n.rp.co.sub.t h⟩, k _ _ _ _ _ _ n (dj_tup h rs) q⟩
theorem i_str (h : PDv X io e fv) : PDi X io tg e (iStrD fv) := by
  obtain ⟨_, a1, a2⟩ := h
  refine ⟨_, pi_str a1, fun B G H σ ρ fp Qd Rr hB R hf k => ?_⟩
  refine a2 B G H σ ρ fp _ _ hB R hf fun d ρ1 v G1 H1 fp1 n r ⟨x, ed, q⟩ => ?_
  subst ed
  exact ⟨x, r.str_inv, k _ _ _ _ _ _ n dj_str q⟩
theorem Paired.rqOne {K : PySem.W.Frag} {B : Bs} {σ : L2.St} {G H : Hp} {ρ : Rho} {fp : Nat → List Addr} (R : Rp K B G H σ ρ fp) {vs : List V} {os : List OV} {d : DD} (h : Paired (OVR K G σ) vs os) (e : resDs ρ os = some [d]) : ∃ v, vs = [v] ∧ Rq K H v d := (Paired.rqH R h e).one
@[simp] def iRg1 (fos : FOs) : FI := fun ρ Q => fos ρ fun os ρ1 => ∃ j : Int, resDs ρ1 os = some [.int j] ∧ -(2 ^ 62) ≤ j ∧ j < 2 ^ 62 ∧ Q (rgD 0 1 j.toNat) ρ1
theorem i_rg1 (hm : X.mg "range" = none) (h : PDos X io [a] fos) (hg : Gl X "range" := by rfl) (hs : starEach [a] X.env = [(false, eval a X.env)] := by rfl) : PDi X io tg (.Call (.Name "range" p) [a] [] pos) (iRg1 fos) := by
  obtain ⟨_, a1, a2⟩ := h
  refine ⟨_, pi_range1 hg hm a1 hs, fun B G H σ ρ fp Qd Rr hB R hf k => ?_⟩
  refine a2 B G H σ ρ fp _ _ hB R hf fun os ρ1 vs G1 H1 fp1 n o ⟨j, e, l1, l2, q⟩ => ?_
  obtain ⟨v, rfl, r⟩ := Paired.rqOne n.rp o e
  exact ⟨j, by rw [r.int_inv], l1, l2, k _ _ _ _ _ _ n dj_range q⟩
@[simp] def iRg2 (fos : FOs) : FI := fun ρ Q => fos ρ fun os ρ1 => ∃ i j : Int, resDs ρ1 os = some [.int i, .int j] ∧ (-(2 ^ 62) ≤ i ∧ i < 2 ^ 62 ∧ -(2 ^ 62) ≤ j ∧ j < 2 ^ 62) ∧ Q (rgD i 1 (j - i).toNat) ρ1
theorem i_rg2 (hm : X.mg "range" = none) (h : PDos X io [a, b] fos) (hg : Gl X "range" := by rfl) (hs : starEach [a, b] X.env = [(false, eval a X.env), (false, eval b X.env)] := by rfl) (hs2 : starEach [b] X.env = [(false, eval b X.env)] := by rfl) : PDi X io tg (.Call (.Name "range" p) [a, b] [] pos) (iRg2 fos) := by
  obtain ⟨_, a1, a2⟩ := h
  refine ⟨_, pi_range2 hg hm a1 hs hs2, fun B G H σ ρ fp Qd Rr hB R hf k => ?_⟩
  refine a2 B G H σ ρ fp _ _ hB R hf fun os ρ1 vs G1 H1 fp1 n o ⟨i, j, e, l, q⟩ => ?_
  obtain ⟨v, w, rfl, r, r2⟩ := (Paired.rqH n.rp o e).two
  exact ⟨i, j, by rw [r.int_inv, r2.int_inv], l, k _ _ _ _ _ _ n dj_range q⟩
@[simp] def iRg3 (fos : FOs) : FI := fun ρ Q => fos ρ fun os ρ1 => ∃ (i j c : Int) (n : Nat), resDs ρ1 os = some [.int i, .int j, .int c] ∧ RgC i j c n ∧ Q (rgD i c n) ρ1
theorem RqA.three {K : PySem.W.Frag} {G : Hp} {xs : List V} {d e f : DD} (h : RqA K G xs [d, e, f]) : ∃ x y z, xs = [x, y, z] ∧ Rq K G x d ∧ Rq K G y e ∧ Rq K G z f := by
  cases h with
  | cons a b => cases b with | cons b c => cases c with | cons c d => cases d; exact ⟨_, _, _, rfl, a, b, c⟩
theorem i_rg3 (hm : X.mg "range" = none) (h : PDos X io [a, b, c] fos) (hg : Gl X "range" := by rfl) (hs : starEach [a, b, c] X.env = (false, eval a X.env) :: starEach [b, c] X.env := by rfl) (hpl : (backTo pos (starEach [b, c] X.env)).any (·.1) = false := by rfl) : PDi X io tg (.Call (.Name "range" p) [a, b, c] [] pos) (iRg3 fos) := by
  obtain ⟨_, a1, a2⟩ := h
  refine ⟨_, pi_range3 hg hm a1 hs hpl, fun B G H σ ρ fp Qd Rr hB R hf k => ?_⟩
  refine a2 B G H σ ρ fp _ _ hB R hf fun os ρ1 vs G1 H1 fp1 n o ⟨i, j, c, m, e, l, q⟩ => ?_
  obtain ⟨v, w, u, rfl, r, r2, r3⟩ := (Paired.rqH n.rp o e).three
  exact ⟨i, j, c, m, by rw [r.int_inv, r2.int_inv, r3.int_inv], l, k _ _ _ _ _ _ n dj_rangeC q⟩
/-- enumerate(e), zip(a, b): data lists -/
abbrev FDs := Rho → (List DD → Rho → Prop) → Prop
@[simp] def sD (fs : FSs) : FDs := fun ρ Q => fs ρ fun ts ρ1 => Q (ts.map SV.data) ρ1
@[simp] def iEn (fs : FSs) : FI := fun ρ Q => sD fs ρ fun ds ρ1 => ∃ l, ds = [.lst l] ∧ Q (enumD l) ρ1
theorem ds_sealed {ta : TA} {fs : FSs} (h : DSv X.K io ta fs) : ∀ (B : Bs) G H σ ρ fp (Qd : List DD → Rho → Prop) (Q : List V → Hp → Prop), B.io = io → Rp X.K B G H σ ρ fp → sD fs ρ Qd →
    (∀ ds ρ' vs G' H' fp', Nxt X.K B σ G H fp G' H' ρ' fp' → RqA X.K G' vs ds → Qd ds ρ' → Q vs H') → ta σ H Q := fun B G H σ ρ fp Qd Q hB R hf k =>
  h B G H σ ρ fp _ _ hB R hf fun ts ρ' vs G' H' fp' fr n os t1 t2 q => by
    obtain ⟨n2, r⟩ := Nxt.sealeds R n os t1 t2
    exact k _ _ _ _ _ _ n2 r q
theorem i_en {elts : List Expr} {kk : Nat} {tpos : Pos} {fs : FSs} (hm : X.mg "enumerate" = none) (h : PDs' X io [e] fs) (hg : Gl X "enumerate" := by rfl) (hs : starEach [e] X.env = [(false, eval e X.env)] := by rfl) : PDi X io (.Tuple elts kk tpos) (.Call (.Name "enumerate" p) [e] [] pos) (iEn fs) := by
  obtain ⟨_, a1, a2⟩ := h
  refine ⟨_, pi_enum hg hm a1 hs, fun B G H σ ρ fp Qd Rr hB R hf k => ?_⟩
  refine ds_sealed a2 B G H σ ρ fp _ _ hB R hf fun ds ρ1 vs G1 H1 fp1 n r ⟨l, ed, q⟩ => ?_
  subst ed
  obtain ⟨v, rfl, r1⟩ := r.one
  obtain ⟨p, xs, ev, h, rs⟩ := r1.lst_inv
  exact ⟨p, xs, by rw [ev], .inl (n.rp.co.sub.rd h), k _ _ _ _ _ _ n (dj_enum h rs) q⟩
@[simp] def iZp (fs : FSs) : FI := fun ρ Q => sD fs ρ fun ds ρ1 => ∃ l m, ds = [.lst l, .lst m] ∧ Q (zipD l m) ρ1
theorem i_zp {elts : List Expr} {kk : Nat} {tpos : Pos} {fs : FSs} (hm : X.mg "zip" = none) (h : PDs' X io [a, b] fs) (hg : Gl X "zip" := by rfl) (hs : starEach [a, b] X.env = (false, eval a X.env) :: starEach [b] X.env := by rfl) (hpl : (backTo pos (starEach [b] X.env)).any (·.1) = false := by rfl) :
    PDi X io (.Tuple elts kk tpos) (.Call (.Name "zip" p) [a, b] [] pos) (iZp fs) := by
  obtain ⟨_, a1, a2⟩ := h
  refine ⟨_, pi_zip hg hm a1 hs hpl, fun B G H σ ρ fp Qd Rr hB R hf k => ?_⟩
  refine ds_sealed a2 B G H σ ρ fp _ _ hB R hf fun ds ρ1 vs G1 H1 fp1 n r ⟨l, m, ed, q⟩ => ?_
  subst ed
  obtain ⟨v, w, rfl, r1, r2⟩ := r.two
  obtain ⟨p, xs, ev, h, rs⟩ := r1.lst_inv
  obtain ⟨p2, ys, ew, h2, rs2⟩ := r2.lst_inv
  exact ⟨p, p2, xs, ys, by rw [ev, ew], .inl (n.rp.co.sub.rd h), .inl (n.rp.co.sub.rd h2), k _ _ _ _ _ _ n (dj_zip h rs h2 rs2) q⟩
/-! for -/
def fFor (fi : FI) (fg : FG) (f : FS) : FS := fun D ρ => fi ρ fun ds ρ1 => ∃ W : Nat → Rho → Prop, W 0 ρ1 ∧ (∀ (i : Nat) d ρ, ds[i]? = some d → W i ρ → fg d ρ fun ρ2 => f { D with nx := W (i + 1), ct := W (i + 1), bk := D.nx } ρ2) ∧ ∀ ρ, W ds.length ρ → D.nx ρ
/-- another floor -/
theorem Rp.floor {K : PySem.W.Frag} {B : Bs} {G H : Hp} {σ : L2.St} {ρ : Rho} {fp : Nat → List Addr} (R : Rp K B G H σ ρ fp) {L : Hp} (h : Sub L G) : Rp K { B with L := L } G H σ ρ fp := ⟨R.co, R.stp, R.own, R.io, h⟩
theorem Rp.unfloor {K : PySem.W.Frag} {B : Bs} {G H : Hp} {σ : L2.St} {ρ : Rho} {fp : Nat → List Addr} {L : Hp} (R : Rp K { B with L := L } G H σ ρ fp) (h : Sub B.L L) : Rp K B G H σ ρ fp := ⟨R.co, R.stp, R.own, R.io, h.trans R.lo⟩
theorem s_for {body : List Stmt} {fi : FI} {fg : FG} {f : FS} (hp : PassesOwn (model X.prog X.w) X.A X.env X.xe) (hc : X.calm = true) {ks : List Nat} (hi : PDi X io tg e fi) (hg : PDg X io ks tg fg) (hb : PDss X io body f) (hs : ∀ x, foldedSetIterable e X.env x = pure x := by intro _; rfl) :
    PDs X io (.For tg e body [] pos) (fFor fi fg f) := by
  obtain ⟨_, a1, a2⟩ := hi
  obtain ⟨_, b1, b2⟩ := hg
  obtain ⟨_, c1, c2⟩ := hb
  refine ⟨_, ps_for hp hc a1 b1 c1 hs, fun B G H σ ρ fp Dd Dh hB R hf s => ?_⟩
  refine a2 B G H σ ρ fp _ _ hB R hf fun ds ρ1 J G1 H1 fp1 n dj ⟨W, w0, hw, hd⟩ => ?_
  have lo : Sub B.L G1 := n.rp.lo
  refine ⟨fun i m σ H => m = ds.length - i ∧ i ≤ ds.length ∧ ∃ G ρ fp, Rp X.K { B with L := G1 } G H σ ρ fp ∧ W i ρ, ⟨_, rfl, Nat.zero_le _, G1, ρ1, fp1, n.rp.floor (Sub.refl _), w0⟩, ?_⟩
  rintro i m σ2 H2 ⟨rfl, hi, G2, ρ2, fp2, R2, w2⟩
  obtain ⟨j1, j2⟩ := dj _ i G2 H2 σ2 ρ2 fp2 R2.lo R2
  by_cases hlt : i < ds.length
  · obtain ⟨d, ed⟩ : ∃ d, ds[i]? = some d := ⟨ds[i], List.getElem?_eq_getElem hlt⟩
    obtain ⟨go, y⟩ := j2 d ed
    refine .inr ⟨go, fun σ' H' => ∃ G ρ fp, Rp X.K { B with L := G1 } G H' σ' ρ fp ∧ W (i + 1) ρ, fun σ' H' q => ⟨ds.length - (i + 1), by omega, rfl, hlt, q⟩, fun x H3 yx => ?_⟩
    obtain ⟨G3, n3, r3⟩ := y x H3 yx
    refine b2 _ G3 H3 σ2 ρ2 fp2 x d _ _ (by exact hB) n3.rp r3 (hw i d ρ2 ed w2) fun σ4 ρ4 fp4 R4 _ _ q4 => ?_
    exact c2 _ G3 H3 σ4 ρ4 fp4 _ _ (by exact hB) R4 q4 ⟨fun G H σ ρ fp R z => ⟨G, ρ, fp, R, z⟩, fun G H σ ρ fp r v fr R o t1 t2 z => s.rt G H σ ρ fp r v fr (R.unfloor lo) o t1 t2 z, fun G H σ ρ fp R z => s.nx G H σ ρ fp (R.unfloor lo) z, fun G H σ ρ fp R z => ⟨G, ρ, fp, R, z⟩⟩
  · have e : i = ds.length := by omega
    subst e
    exact .inl ⟨j1 (Nat.le_refl _), s.nx _ _ _ _ _ (R2.unfloor lo) (hd ρ2 w2)⟩
end
end DL

namespace DL
open PySem PySem.Spec PyProof.Rows L2
/-! ### list comprehensions -/
def canE (K : PySem.W.Frag) (io : List Nat) (fe : FE) : TE := fun σ H Q => ∃ (B : Bs) (G : Hp) (ρ : Rho) (fp : Nat → List Addr) (Qd : SV → Rho → Prop), B.io = io ∧ Rp K B G H σ ρ fp ∧ fe ρ Qd ∧
  ∀ r ρ' v G' H' fp' fr, Nxt K B σ G H fp G' H' ρ' fp' → OT K G' H' v r fr → (∀ a ∈ fr, ¬ In fp' a) → (∀ a ∈ fr, H a = none ∨ In fp a) → Qd r ρ' → Q v H'
def canT (K : PySem.W.Frag) (io : List Nat) (ft : FT) : TT := fun σ H Q => ∃ (B : Bs) (G : Hp) (ρ : Rho) (fp : Nat → List Addr) (Qd : Bool → Rho → Prop), B.io = io ∧ Rp K B G H σ ρ fp ∧ ft ρ Qd ∧
  ∀ b ρ' G' H' fp', Nxt K B σ G H fp G' H' ρ' fp' → Qd b ρ' → Q b H'
def canG (K : PySem.W.Frag) (io ks : List Nat) (fg : FG) : TG := fun v σ H Q => ∃ (B : Bs) (G : Hp) (ρ : Rho) (fp : Nat → List Addr) (d : DD) (Qd : Rho → Prop), B.io = io ∧ Rp K B G H σ ρ fp ∧ Rq K G v d ∧ fg d ρ Qd ∧
  ∀ σ' ρ' fp', Rp K B G H σ' ρ' fp' → (∀ a, In fp' a → In fp a) → (σ'.length = σ.length ∧ ∀ j, j ∉ ks → σ'[j]? = σ[j]?) → Qd ρ' → Q σ' H
section
variable {X : Cx} {io ks : List Nat} {e : Expr}
theorem PDe.can {fe : FE} (h : PDe X io e fe) : PE X e (canE X.K io fe) := by
  obtain ⟨te, h1, h2⟩ := h
  exact ⟨fun pins s σ H Q I ⟨B, G, ρ, fp, Qd, hB, R, hf, k⟩ => h1.run pins s σ H Q I (h2 B G H σ ρ fp Qd Q hB R hf k)⟩
theorem PDg.can {fg : FG} (h : PDg X io ks e fg) : PG X e (canG X.K io ks fg) := by
  obtain ⟨te, h1, h2⟩ := h
  exact ⟨fun pins s σ H v u Q I r ⟨B, G, ρ, fp, d, Qd, hB, R, rq, hf, k⟩ => h1.run pins s σ H v u Q I r (h2 B G H σ ρ fp v d Qd Q hB R rq hf k)⟩
def PDts (X : Cx) (io : List Nat) (ifs : List Expr) (ft : FT) : Prop := ∃ tt, PTs X ifs tt ∧ DT X.K io tt ft
@[simp] def fYes : FT := fun ρ Q => Q true ρ
theorem ifs_nil : PDts X io [] fYes := ⟨_, pts_nil, fun B G H σ ρ fp Qd Q hB R hf k => k true ρ G H fp (Nxt.refl R) hf⟩
theorem ifs_one {c : Expr} {ft : FT} (h : PDt X io c ft) : PDts X io [c] ft := let ⟨_, a, b⟩ := h; ⟨_, pts_one a, b⟩
theorem PDts.can {ifs : List Expr} {ft : FT} (h : PDts X io ifs ft) : PTs X ifs (canT X.K io ft) := by
  obtain ⟨te, h1, h2⟩ := h
  exact ⟨fun pins s σ H Q I ⟨B, G, ρ, fp, Qd, hB, R, hf, k⟩ => h1.run pins s σ H Q I (h2 B G H σ ρ fp Qd Q hB R hf k)⟩
end
def wipeR (ρ : Rho) : List Nat → Rho
  | [] => ρ
  | v :: vs => (wipeR ρ vs).set v none
def unwipe (ρ4 ρ : Rho) : List Nat → Rho
  | [] => ρ4
  | v :: vs => (unwipe ρ4 ρ vs).set v (ρ[v]?.join)
def plainB (ρ : Rho) (vs : List Nat) : Bool := vs.all fun v => match ρ[v]? with
  | some (some (.dat _)) => true
  | some (some _) => false
  | _ => true
theorem wipe_len (σ : L2.St) (vs : List Nat) : (wipe σ vs).length = σ.length := wipe_length σ vs
theorem wipeR_len (ρ : Rho) : ∀ vs, (wipeR ρ vs).length = ρ.length
  | [] => rfl
  | v :: vs => by rw [wipeR, List.length_set, wipeR_len ρ vs]
theorem unwipe_len (ρ4 ρ : Rho) : ∀ vs, (unwipe ρ4 ρ vs).length = ρ4.length
  | [] => rfl
  | v :: vs => by rw [unwipe, List.length_set, unwipe_len ρ4 ρ vs]
theorem wipeR_out {ρ : Rho} {j : Nat} : ∀ {vs}, j ∉ vs → (wipeR ρ vs)[j]? = ρ[j]?
  | [], _ => rfl
  | v :: vs, h => by
    rw [wipeR, List.getElem?_set_ne (fun e => h (by rw [e]; exact List.mem_cons_self)), wipeR_out fun m => h (List.mem_cons_of_mem _ m)]
theorem wipeR_in {ρ : Rho} {j : Nat} {t : SV} : ∀ {vs}, j ∈ vs → (wipeR ρ vs)[j]? ≠ some (some t)
  | v :: vs, h => by
    rw [wipeR]
    by_cases e : v = j
    · subst e
      by_cases hl : v < (wipeR ρ vs).length
      · rw [List.getElem?_set_self hl]; simp
      · rw [List.getElem?_eq_none (by simpa using hl)]; simp
    · rw [List.getElem?_set_ne e]
      rcases List.mem_cons.mp h with z | z
      · exact absurd z.symm e
      · exact wipeR_in z
theorem unwipe_out {ρ4 ρ : Rho} {j : Nat} : ∀ {vs}, j ∉ vs → (unwipe ρ4 ρ vs)[j]? = ρ4[j]?
  | [], _ => rfl
  | v :: vs, h => by
    rw [unwipe, List.getElem?_set_ne (fun e => h (by rw [e]; exact List.mem_cons_self)), unwipe_out fun m => h (List.mem_cons_of_mem _ m)]
theorem unwipe_in {ρ4 ρ : Rho} {j : Nat} {t : SV} : ∀ {vs}, j ∈ vs → (unwipe ρ4 ρ vs)[j]? = some (some t) → ρ[j]? = some (some t)
  | v :: vs, h, e => by
    rw [unwipe] at e
    by_cases ev : v = j
    · subst ev
      by_cases hl : v < (unwipe ρ4 ρ vs).length
      · rw [List.getElem?_set_self hl] at e
        injection e with e
        exact join_some e
      · rw [List.getElem?_eq_none (by simpa using hl)] at e; cases e
    · rw [List.getElem?_set_ne ev] at e
      rcases List.mem_cons.mp h with z | z
      · exact absurd z.symm ev
      · exact unwipe_in z e
theorem plainB_of {ρ : Rho} {vs : List Nat} (h : plainB ρ vs = true) {v : Nat} (m : v ∈ vs) {t : SV} (e : ρ[v]? = some (some t)) : ∃ d, t = .dat d := by
  have := List.all_eq_true.mp h v m
  simp only [e] at this
  cases t with
  | dat d => exact ⟨d, rfl⟩
  | own _ => cases this
  | ob _ _ => cases this
theorem wipe_outS {σ : L2.St} {j : Nat} : ∀ {vs : List Nat}, j ∉ vs → (wipe σ vs)[j]? = σ[j]? := fun h => L2.wipe_out h
theorem wipe_in_none {σ : L2.St} {j : Nat} : ∀ {vs : List Nat}, j ∈ vs → (wipe σ vs)[j]? = if j < σ.length then some none else none
  | v :: vs, h => by
    rw [wipe]
    by_cases e : v = j
    · subst e
      by_cases hl : v < σ.length
      · rw [if_pos hl, List.getElem?_set_self (by rw [wipe_length]; exact hl)]
      · rw [if_neg hl, List.getElem?_eq_none (by rw [List.length_set, wipe_length]; omega)]
    · rw [List.getElem?_set_ne e]
      rcases List.mem_cons.mp h with z | z
      · exact absurd z.symm e
      · exact wipe_in_none z
theorem wipe_eq {σ σ' : L2.St} {vs ks : List Nat} (hk : ∀ k ∈ ks, k ∈ vs) (hl : σ'.length = σ.length) (h : ∀ j, j ∉ ks → σ'[j]? = (wipe σ vs)[j]?) : wipe σ' vs = wipe σ vs := by
  apply List.ext_getElem?
  intro j
  by_cases m : j ∈ vs
  · rw [wipe_in_none m, wipe_in_none m, hl]
  · rw [wipe_outS m, h j fun z => m (hk j z)]
section
variable {K : PySem.W.Frag} {B : Bs} {σ : L2.St} {G H G' H' : Hp} {ρ ρ' : Rho} {fp fp' : Nat → List Addr} {vs : List Nat}
theorem Rp.wiped (R : Rp K B G H σ ρ fp) (hv : plainB ρ vs = true) (hio : ∀ v ∈ vs, v ∉ B.io) : Rp K B G H (wipe σ vs) (wipeR ρ vs) fp := by
  refine ⟨⟨by rw [wipe_length, wipeR_len]; exact R.co.len, R.co.sub, fun i t h => ?_, fun i h => ?_, R.co.dis⟩, R.stp, R.own, fun i m => ?_, R.lo⟩
  · have m : i ∉ vs := fun m => wipeR_in m h
    rw [wipeR_out m] at h
    rw [wipe_outS m]
    exact R.co.slot i t h
  · by_cases m : i ∈ vs
    · by_cases q : ∃ t, ρ[i]? = some (some t)
      · obtain ⟨t, q⟩ := q
        obtain ⟨d, rfl⟩ := plainB_of hv m q
        obtain ⟨v, _, ot⟩ := R.co.slot i _ q
        exact ot.dat_inv.2
      · exact R.co.nil i fun t e => q ⟨t, e⟩
    · exact R.co.nil i fun t e => h t (by rw [wipeR_out m]; exact e)
  · obtain ⟨v, t, h1, h2, h3⟩ := R.io i m
    have ni : i ∉ vs := fun z => hio i z m
    exact ⟨v, t, h1, by rw [wipe_outS ni]; exact h2, by rw [wipeR_out ni]; exact h3⟩
/-- back from a block: σ2 is the block's slots -/
theorem Rp.unwiped {σ2 : L2.St} (R : Rp K B G H σ ρ fp) (hv : plainB ρ vs = true) (hio : ∀ v ∈ vs, v ∉ B.io) (R2 : Rp K B G' H' σ2 ρ' fp') (hs : ∀ j, j ∉ vs → σ2[j]? = σ[j]?) (s : Sub G G') (hl : σ2.length = σ.length) :
    Rp K B G' H' σ (unwipe ρ' ρ vs) (fun j => if j ∈ vs then [] else fp' j) := by
  refine ⟨⟨by rw [unwipe_len, ← R2.co.len, hl], R2.co.sub, fun i t h => ?_, fun i h => ?_, fun i j a m1 m2 => ?_⟩, R2.stp, fun a h => ?_, fun i m => ?_, R2.lo⟩
  · by_cases m : i ∈ vs
    · have e := unwipe_in m h
      obtain ⟨d, rfl⟩ := plainB_of hv m e
      obtain ⟨v, e1, ot⟩ := R.co.slot i _ e
      refine ⟨v, e1, ?_⟩
      simp only [if_pos m]
      exact .dat (ot.dat_inv.1.mono s)
    · rw [unwipe_out m] at h
      obtain ⟨v, e1, ot⟩ := R2.co.slot i t h
      refine ⟨v, by rw [← hs i m]; exact e1, ?_⟩
      simp only [if_neg m]; exact ot
  · by_cases m : i ∈ vs
    · exact if_pos m
    · simp only [if_neg m]
      exact R2.co.nil i fun t e => h t (by rw [unwipe_out m]; exact e)
  · by_cases e1 : i ∈ vs
    · simp [e1] at m1
    · by_cases e2 : j ∈ vs
      · simp [e2] at m2
      · simp only [if_neg e1] at m1
        simp only [if_neg e2] at m2
        exact R2.co.dis i j a m1 m2
  · obtain ⟨j, m⟩ := h
    by_cases e1 : j ∈ vs
    · simp [e1] at m
    · simp only [if_neg e1] at m
      exact R2.own a ⟨j, m⟩
  · obtain ⟨v, t, h1, h2, h3⟩ := R2.io i m
    have ni : i ∉ vs := fun z => hio i z m
    exact ⟨v, t, h1, by rw [← hs i ni]; exact h2, by rw [unwipe_out ni]; exact h3⟩
end
theorem Nxt.chg {K : PySem.W.Frag} {B : Bs} {σ : L2.St} {G H G' H' : Hp} {ρ ρ' : Rho} {fp fp' : Nat → List Addr} {D : Addr} {o : HO} (R : Rp K B G H σ ρ fp) (n : Nxt K B σ G H fp G' H' ρ' fp') (nD : ¬ In fp' D) (gD : G' D = none) (hD : H D = none ∨ In fp D) :
    Nxt K B σ G H fp G' (upd H' D o) ρ' fp' := by
  have ne : ∀ a, In fp' a → a ≠ D := fun a m e => nD (e ▸ m)
  refine ⟨⟨n.rp.co.grow (Sub.refl _) (fun a m u e => by rw [upd_ne (ne a m)]; exact e) (fun a m => (n.rp.co.here m).2) (fun a u e => ?_), ⟨n.rp.stp.ex, fun a u h e => ?_, n.rp.stp.hid⟩, n.rp.own, n.rp.io, n.rp.lo⟩, ⟨n.st.ex, fun a u h e => ?_, n.st.hid⟩, n.inn⟩
  · have : a ≠ D := fun z => by rw [z, gD] at e; cases e
    rw [upd_ne this]; exact n.rp.co.sub a u e
  · have : a ≠ D := fun z => by
      subst z
      rcases (R.base (fr := [a]) (fun b m => by have : b = a := by simpa using m
                                                subst this; exact hD)) a List.mem_cons_self with y | y
      · exact h y
      · rw [e] at y; cases y
    rw [upd_ne this]; exact n.rp.stp.keep a u h e
  · have : a ≠ D := fun z => by
      subst z
      rcases hD with y | y
      · rw [e] at y; cases y
      · exact h y
    rw [upd_ne this]; exact n.st.keep a u h e
def fLc (io : List Nat) (fi : FI) (fg : FG) (ft : FT) (fe : FE) (vs : List Nat) : FE := fun ρ Q => fi ρ fun ds ρ1 => (∀ v ∈ vs, v ∉ io) ∧ ∃ W : Nat → List SV → Rho → Prop, W 0 [] ρ1 ∧
  (∀ (i : Nat) d acc ρ, ds[i]? = some d → W i acc ρ → plainB ρ vs = true ∧ fg d (wipeR ρ vs) fun ρ2 => ft ρ2 fun b ρ3 => if b = true then fe ρ3 fun r ρ4 => acc.length < sizeLine ∧ W (i + 1) (acc ++ [r]) (unwipe ρ4 ρ vs) else W (i + 1) acc (unwipe ρ3 ρ vs)) ∧
  ∀ acc ρ, W ds.length acc ρ → Q (.own acc) ρ
theorem OTs.snoc {K : PySem.W.Frag} {G H : Hp} {v : V} {t : SV} {f2 : List Addr} : ∀ {vs : List V} {ts : List SV} {f1 : List Addr}, OTs K G H vs ts f1 → OT K G H v t f2 → (∀ a ∈ f1, a ∉ f2) → OTs K G H (vs ++ [v]) (ts ++ [t]) (f1 ++ f2)
  | _, _, _, .nil, o, _ => by
    have := OTs.cons o OTs.nil (fun _ _ z => nomatch z)
    simpa using this
  | _, _, _, .cons (f1 := fa) (f2 := fb) a b d, o, h => by
    have ih := OTs.snoc b o fun x m => h x (List.mem_append_right _ m)
    have := OTs.cons a ih fun x m m' => (List.mem_append.mp m').elim (d x m) (h x (List.mem_append_left _ m))
    simpa [List.append_assoc] using this
section
variable {K : PySem.W.Frag} {io ks vs : List Nat} {wi : TI} {fi : FI} {fg : FG} {ft : FT} {fe : FE}
theorem de_lc (hi : DI K io wi fi) (hk : ∀ k ∈ ks, k ∈ vs) : DE K io (tLc wi (canG K io ks fg) (canT K io ft) (canE K io fe) vs) (fLc io fi fg ft fe vs) := by
  intro B G H σ ρ fp Qd Q hB R hf k
  refine hi B G H σ ρ fp _ _ hB R hf fun ds ρ1 J G1 H1 fp1 n1 dj ⟨hio, W, w0, hw, hd⟩ => ?_
  intro D hD
  have gD : G1 D = none := by
    cases e : G1 D with
    | none => rfl
    | some u => have := n1.rp.co.sub _ _ e; rw [hD] at this; cases this
  have hio' : ∀ v ∈ vs, v ∉ B.io := by rw [hB]; exact hio
  have hHD : H D = none ∨ In fp D := by
    by_cases q : In fp D
    · exact .inr q
    · exact .inl (n1.st.fresh q hD)
  have nD1 : ¬ In fp1 D := fun i => by
    obtain ⟨⟨u, h⟩, _⟩ := n1.rp.co.here i
    rw [hD] at h; cases h
  refine ⟨fun i m H' => m = ds.length - i ∧ i ≤ ds.length ∧ ∃ G' ρ' fp' acc vacc fr, Nxt K B σ G H fp G' H' ρ' fp' ∧ Sub G1 G' ∧ OT K G' H' (.ref D) (.own acc) (D :: fr) ∧ H' D = some (.lst vacc) ∧ OTs K G' H' vacc acc fr ∧
    (∀ a ∈ D :: fr, ¬ In fp' a) ∧ (∀ a ∈ D :: fr, H a = none ∨ In fp a) ∧ W i acc ρ', ⟨_, rfl, Nat.zero_le _, G1, ρ1, fp1, [], [], [], ?_⟩, ?_⟩
  · have n2 := n1.trans (Nxt.laid n1.rp (o := .lst []) hD)
    refine ⟨n2, Sub.refl _, .own upd_same gD .nil (fun z => nomatch z), upd_same, .nil, fun a m => ?_, fun a m => ?_, w0⟩
    · have : a = D := by simpa using m
      subst this; exact nD1
    · have : a = D := by simpa using m
      subst this; exact hHD
  rintro i m H2 ⟨rfl, hi2, G2, ρ2, fp2, acc, vacc, fr, n2, s12, ot, hacc, ots, t1, t2, w2⟩
  obtain ⟨j1, j2⟩ := dj B i G2 H2 σ ρ2 fp2 s12 n2.rp
  by_cases hlt : i < ds.length
  · obtain ⟨d, ed⟩ : ∃ d, ds[i]? = some d := ⟨ds[i], List.getElem?_eq_getElem hlt⟩
    obtain ⟨go, y⟩ := j2 d ed
    refine .inr ⟨go, _, fun H' q => ⟨ds.length - (i + 1), by omega, rfl, hlt, q⟩, fun x H3 yx => ?_⟩
    obtain ⟨G3, n3, r3⟩ := y x H3 yx
    obtain ⟨pl, q⟩ := hw i d acc ρ2 ed w2
    have n23 := n2.trans n3
    have Rw := n3.rp.wiped pl hio'
    -- what is held by the new list stands through all of it
    have hold : ∀ {Ga Ha Gb Hb : Hp} {fa : Nat → List Addr} {f : List Addr}, Stp (In fa) Ga Ha Gb Hb → (∀ a ∈ f, ¬ In fa a) → (∀ a ∈ f, (∃ o, Ha a = some o) ∧ Ga a = none) → (∀ a ∈ f, ∀ o, Ha a = some o → Hb a = some o) ∧ ∀ a ∈ f, Gb a = none := fun st n h => ⟨fun a m o e => st.keep a o (n a m) e, fun a m => by
      obtain ⟨⟨o, e⟩, g⟩ := h a m
      exact st.hid a o (n a m) e g⟩
    have nin : ∀ {fa fb : Nat → List Addr} {Ha : Hp} {f : List Addr}, (∀ a, In fb a → In fa a ∨ Ha a = none) → (∀ a ∈ f, ¬ In fa a) → (∀ a ∈ f, ∃ o, Ha a = some o) → ∀ a ∈ f, ¬ In fb a := fun inn n h a m z => by
      rcases inn a z with y | y
      · exact n a m y
      · obtain ⟨o, e⟩ := h a m
        rw [y] at e; cases e
    have h2 := ot.here
    have ⟨k3, g3⟩ := hold n3.st t1 h2
    have t13 := nin n3.inn t1 fun a m => (h2 a m).1
    have ot3 := ot.mono n3.st.ex k3 g3
    have ots3 := ots.mono n3.st.ex (fun a m => k3 a (List.mem_cons_of_mem _ m)) (fun a m => g3 a (List.mem_cons_of_mem _ m))
    have hacc3 := k3 D List.mem_cons_self _ hacc
    refine ⟨B, G3, wipeR ρ2 vs, fp2, d, _, hB, Rw, r3, q, fun σ4 ρ4 fp4 R4 in4 hs4 q4 => ?_⟩
    have hl4 : σ4.length = σ.length := by rw [hs4.1, wipe_length]
    have hs4' : ∀ j, j ∉ vs → σ4[j]? = σ[j]? := fun j hj => by rw [hs4.2 j fun z => hj (hk j z), wipe_outS hj]
    refine ⟨wipe_eq hk hl4 hs4.2, ?_⟩
    have h3 := ot3.here
    have t14 : ∀ a ∈ D :: fr, ¬ In fp4 a := fun a m z => t13 a m (in4 a z)
    refine ⟨B, G3, ρ4, fp4, _, hB, R4, q4, fun b ρ5 G5 H5 fp5 n5 q5 => ?_⟩
    have ⟨k5, g5⟩ := hold n5.st t14 h3
    have t15 := nin n5.inn t14 fun a m => (h3 a m).1
    have ot5 := ot3.mono n5.st.ex k5 g5
    have ots5 := ots3.mono n5.st.ex (fun a m => k5 a (List.mem_cons_of_mem _ m)) (fun a m => g5 a (List.mem_cons_of_mem _ m))
    have hacc5 := k5 D List.mem_cons_self _ hacc3
    have h5 := ot5.here
    -- back in the frame
    have back : ∀ {Gx Hx : Hp} {ρx : Rho} {fpx : Nat → List Addr}, Rp K B Gx Hx σ4 ρx fpx → Stp (In fp4) G3 H3 Gx Hx → (∀ a, In fpx a → In fp4 a ∨ H3 a = none) → Nxt K B σ G H fp Gx Hx (unwipe ρx ρ2 vs) (fun j => if j ∈ vs then [] else fpx j) := fun {Gx Hx ρx fpx} Rx st inn => by
      have sub : ∀ a, In (fun j => if j ∈ vs then [] else fpx j) a → In fpx a := fun a ⟨j, m⟩ => by
        by_cases e : j ∈ vs
        · simp [e] at m
        · simp only [if_neg e] at m; exact ⟨j, m⟩
      have st' : Stp (In fp) G H Gx Hx := n23.st.trans st fun a z => n23.inn a (in4 a z)
      refine ⟨n3.rp.unwiped pl hio' Rx hs4' st.ex hl4, st', fun a z => ?_⟩
      rcases inn a (sub a z) with y | y
      · exact n23.inn a (in4 a y)
      · by_cases q : In fp a
        · exact .inl q
        · exact .inr (n23.st.fresh q y)
    have sub' : ∀ {fpx : Nat → List Addr} a, In (fun j => if j ∈ vs then [] else fpx j) a → In fpx a := fun {fpx} a ⟨j, m⟩ => by
      by_cases e : j ∈ vs
      · simp [e] at m
      · simp only [if_neg e] at m; exact ⟨j, m⟩
    have s15 : Sub G1 G5 := s12.trans (n3.st.ex.trans n5.st.ex)
    cases b with
    | false =>
      rw [if_neg Bool.false_ne_true] at q5
      refine iteF ?_
      exact ⟨G5, _, _, acc, vacc, fr, back n5.rp n5.st n5.inn, s15, ot5, hacc5, ots5, fun a m z => t15 a m (sub' a z), t2, q5⟩
    | true =>
      rw [if_pos rfl] at q5
      refine iteT ?_
      refine ⟨B, G5, ρ5, fp5, _, hB, n5.rp, q5, fun r ρ6 y G6 H6 fp6 f6 n6 o6 u1 u2 ⟨hz, w6⟩ => ?_⟩
      have ⟨k6, g6⟩ := hold n6.st t15 h5
      have t16 := nin n6.inn t15 fun a m => (h5 a m).1
      have ots6 := ots5.mono n6.st.ex (fun a m => k6 a (List.mem_cons_of_mem _ m)) (fun a m => g6 a (List.mem_cons_of_mem _ m))
      have hacc6 := k6 D List.mem_cons_self _ hacc5
      have nf : ∀ a ∈ D :: fr, a ∉ f6 := fun a m m6 => by
        rcases u2 a m6 with z | z
        · obtain ⟨⟨o, e⟩, _⟩ := h5 a m
          rw [z] at e; cases e
        · exact t15 a m z
      have nDfr : D ∉ fr := by
        obtain ⟨a', vs', f', ev, ef, _, _, _, nn⟩ := ot.own_inv
        injection ef with e1 e2
        subst e1 e2
        exact nn
      have n56 : Nxt K B σ G H fp G6 H6 (unwipe ρ6 ρ2 vs) (fun j => if j ∈ vs then [] else fp6 j) := back n6.rp (n5.st.trans n6.st n5.inn) fun a z => by
        rcases n6.inn a z with y | y
        · exact n5.inn a y
        · by_cases q : In fp4 a
          · exact .inl q
          · exact .inr (n5.st.fresh q y)
      have nD6 : ¬ In (fun j => if j ∈ vs then [] else fp6 j) D := fun z => t16 D List.mem_cons_self (sub' D z)
      have n7 := Nxt.chg (o := .lst (vacc ++ [y])) R n56 nD6 (g6 D List.mem_cons_self) hHD
      have neD : ∀ a ∈ fr, a ≠ D := fun a m e => nDfr (e ▸ m)
      have neD6 : ∀ a ∈ f6, a ≠ D := fun a m e => nf D List.mem_cons_self (e ▸ m)
      have ots7 : OTs K G6 (upd H6 D (.lst (vacc ++ [y]))) (vacc ++ [y]) (acc ++ [r]) (fr ++ f6) :=
        (ots6.mono (Sub.refl _) (fun a m o e => by rw [upd_ne (neD a m)]; exact e) fun a m => (ots6.here a m).2).snoc (o6.mono (Sub.refl _) (fun a m o e => by rw [upd_ne (neD6 a m)]; exact e) fun a m => (o6.here a m).2) fun a m => nf a (List.mem_cons_of_mem _ m)
      have nD7 : D ∉ fr ++ f6 := fun m => (List.mem_append.mp m).elim nDfr (nf D List.mem_cons_self)
      refine ⟨vacc, hacc6, by rw [ots.length]; exact hz, G6, _, _, acc ++ [r], vacc ++ [y], fr ++ f6, n7, s15.trans n6.st.ex, .own upd_same (g6 D List.mem_cons_self) ots7 nD7, upd_same, ots7, fun a m z => ?_, fun a m => ?_, w6⟩
      · rcases List.mem_cons.mp m with e | m
        · subst e; exact nD6 z
        · rcases List.mem_append.mp m with m | m
          · exact t16 a (List.mem_cons_of_mem _ m) (sub' a z)
          · exact u1 a m (sub' a z)
      · rcases List.mem_cons.mp m with e | m
        · exact t2 a (by rw [e]; exact List.mem_cons_self)
        · rcases List.mem_append.mp m with m | m
          · exact t2 a (List.mem_cons_of_mem _ m)
          · rcases u2 a m with z | z
            · by_cases q : In fp a
              · exact .inr q
              · refine .inl ?_
                by_cases q4 : In fp4 a
                · rcases n23.inn a (in4 a q4) with y | y
                  · exact absurd y q
                  · exact y
                · exact n23.st.fresh q (n5.st.fresh q4 z)
            · rcases n5.inn a z with y | y
              · exact (n23.inn a (in4 a y)).symm
              · by_cases q : In fp a
                · exact .inr q
                · exact .inl (n23.st.fresh q y)
  · have e : i = ds.length := by omega
    subst e
    exact .inl ⟨j1 (Nat.le_refl _), k _ ρ2 _ G2 H2 fp2 (D :: fr) n2 ot t1 t2 (hd acc ρ2 w2)⟩
end
end DL

namespace DL
open PySem PySem.Spec PyProof.Rows L2
section
variable {X : Cx} {io ks : List Nat} {e a b : Expr} {pos : Pos}
theorem e_lc {elt tg iter : Expr} {ifs : List Expr} {scope : Scope} {own : List (Str × Nat)} {fi : FI} {fg : FG} {ft : FT} {fe : FE} (hc : X.calm = true) (hN : X.N.Nodup) (hi : PDi X io tg iter fi) (ok : blkC X.N X.env.scope scope own = true)
    (hg : ∀ (s : Shared) (H : Hp) (C : Addr) (cl : List (Str × Addr)) (fp : List Addr), PDg (X.blk s H scope (compEnvC scope cl C X.env) fp) io ks tg fg) (ht : ∀ (s : Shared) (H : Hp) (C : Addr) (cl : List (Str × Addr)) (fp : List Addr), PDts (X.blk s H scope (compEnvC scope cl C X.env) fp) io ifs ft)
    (he : ∀ (s : Shared) (H : Hp) (C : Addr) (cl : List (Str × Addr)) (fp : List Addr), PDe (X.blk s H scope (compEnvC scope cl C X.env) fp) io elt fe) (hk : ∀ k ∈ ks, k ∈ own.map (·.2) := by decide) (hs : ∀ x, foldedSetIterable iter X.env x = pure x := by intro _; rfl) :
    PDe X io (.ListComp elt [⟨tg, iter, ifs, 0⟩] scope pos) (fLc io fi fg ft fe (own.map (·.2))) := by
  obtain ⟨wi, i1, i2⟩ := hi
  exact ⟨_, pe_lc hc hN i1 (blkOk_by ok) (fun s H C cl fp => (hg s H C cl fp).can) (fun s H C cl fp => (ht s H C cl fp).can) (fun s H C cl fp => (he s H C cl fp).can) hs, de_lc i2 hk⟩
theorem s_lc {i : Nat} {y : Str} {py spos : Pos} {elt tg iter : Expr} {ifs : List Expr} {scope : Scope} {own : List (Str × Nat)} {fi : FI} {fg : FG} {ft : FT} {fe : FE} (hc : X.calm = true) (hN : X.N.Nodup) (hi : PDi X io tg iter fi) (ok : blkC X.N X.env.scope scope own = true)
    (hg : ∀ (s : Shared) (H : Hp) (C : Addr) (cl : List (Str × Addr)) (fp : List Addr), PDg (X.blk s H scope (compEnvC scope cl C X.env) fp) io ks tg fg) (ht : ∀ (s : Shared) (H : Hp) (C : Addr) (cl : List (Str × Addr)) (fp : List Addr), PDts (X.blk s H scope (compEnvC scope cl C X.env) fp) io ifs ft)
    (he : ∀ (s : Shared) (H : Hp) (C : Addr) (cl : List (Str × Addr)) (fp : List Addr), PDe (X.blk s H scope (compEnvC scope cl C X.env) fp) io elt fe) (hy : X.N[i]? = some y := by rfl) (hyl : X.env.scope.names.lookup y = some .local := by rfl)
    (hsw : swapsWith (.ListComp elt [⟨tg, iter, ifs, 0⟩] scope pos) (some (.Name y py)) spos.line X.env = pure true := by exact sw_true rfl rfl rfl (by decide +kernel)) (hk : ∀ k ∈ ks, k ∈ own.map (·.2) := by decide) (hs : ∀ x, foldedSetIterable iter X.env x = pure x := by intro _; rfl) :
    PDs X io (.Assign [.Name y py] (.ListComp elt [⟨tg, iter, ifs, 0⟩] scope pos) spos) (fSet io i (fLc io fi fg ft fe (own.map (·.2)))) := by
  obtain ⟨wi, i1, i2⟩ := hi
  exact ⟨_, ps_setLc hc hN hy hyl hsw i1 (blkOk_by ok) (fun s H C cl fp => (hg s H C cl fp).can) (fun s H C cl fp => (ht s H C cl fp).can) (fun s H C cl fp => (he s H C cl fp).can) hs, ds_set (de_lc i2 hk)⟩

/-! list + list, list * int -/
def rCatR : R2 := fun x y H Q => ∃ l b xs zs, x = .ref l ∧ y = .ref b ∧ Rd H l (.lst xs) ∧ Rd H b (.lst zs) ∧ xs.length + zs.length ≤ sizeLine ∧ ∀ p, H p = none → Q (.ref p) (upd H p (.lst (xs ++ zs)))
theorem Inv.rd {pins : List (Addr × Obj)} {σ : L2.St} {H : Hp} {s : Shared} {l : Addr} {xs : List V} (I : L2.Inv X pins σ H s) (h : Rd H l (.lst xs)) : xs.length ≤ sizeLine ∧ ∃ (its : List Value) (n : Nat), Vals xs its ∧ xs.length = its.length ∧ s.heap.get? l = some { cls := .type "list", data := .seq its.toArray n } := by
  obtain ⟨z, its, n, r, e⟩ := h.ok I.hok
  exact ⟨z, its, n, r, r.length, e⟩
theorem op_catR : OpR X (binaryOp .Add) rCatR := by
  intro pins s σ H x y v u Q I rx ry h
  obtain ⟨l, b, xs, zs, rfl, rfl, hH, hB, hz, q⟩ := h
  cases rx
  cases ry
  obtain ⟨z, its, n, r, hl, e⟩ := Inv.rd I hH
  obtain ⟨z2, its2, n2, r2, hl2, e2⟩ := Inv.rd I hB
  refine PySem.P.add_list e e2 ?_ (by rw [List.size_toArray, List.size_toArray]; omega)
  have ea : its.toArray ++ its2.toArray = (its ++ its2).toArray := by simp
  rw [ea]
  exact ⟨.ref _, _, I.lnew (t' := s.toks) (r.append r2) (by rw [List.length_append]; omega), rfl, q _ I.fresh⟩
def rRepR : R2 := fun x y H Q => ∃ l k xs, x = .ref l ∧ y = .int k ∧ Rd H l (.lst xs) ∧ -(2 ^ 63) ≤ k ∧ k < 2 ^ 63 ∧ xs.length * k.toNat ≤ sizeLine ∧
  ∀ p, H p = none → Q (.ref p) (upd H p (.lst (List.replicate k.toNat xs).flatten))
theorem op_repR : OpR X (binaryOp .Mult) rRepR := by
  intro pins s σ H x y v u Q I rx ry h
  obtain ⟨l, k, xs, rfl, rfl, hH, h1, h2, hz, q⟩ := h
  cases rx
  obtain ⟨t, rfl⟩ := ry
  obtain ⟨z, its, n, r, hl, e⟩ := Inv.rd I hH
  have hlen : its.toArray.size * k.toNat ≤ sizeLine := by rw [List.size_toArray, ← hl]; exact hz
  have hcap : ¬ its.toArray.size * k.toNat > (2 ^ 63 - 1) / 8 := by
    have : (sizeLine : Nat) ≤ (2 ^ 63 - 1) / 8 := by decide
    omega
  have hfit : ¬ (!Builtin.List.listFitsIndex k) = true := by
    rw [fitsIndex_both h1 h2]
    exact Bool.false_ne_true
  have hlong : ¬ Builtin.List.listTooLong (its.toArray.size * k.toNat) = true := by
    rw [notLongL hlen]
    exact Bool.false_ne_true
  have hnew : List.foldl (fun x1 x2 => x1 ++ x2) #[] (List.replicate (if its.toArray.isEmpty = true then 0 else k.toNat) its.toArray) = (List.replicate k.toNat its).flatten.toArray := by
    have f0 : ∀ m : Nat, List.foldl (fun x1 x2 => x1 ++ x2) #[] (List.replicate m its.toArray) = (List.replicate m its).flatten.toArray := fun m => by
      have := foldl_rep its m []
      rw [List.nil_append] at this
      exact this
    rw [f0]
    cases its with
    | nil => simp
    | cons a r' => rw [if_neg (by simp)]
  refine wpAny_binaryOp_repeat_ref (T := "list") (U := "int") (by decide) ⟨_, e, rfl⟩ (fun s' => typeIs_int s' k t) noFill_list_mul F.fills_int_mul F.slot_int_rmul repeat_list F.slot_int_index.lookup
    (call_meets F.slot_int_rmul (typeIs_int s k t) F.entry_int_rmul (F.args_int_rmul_2 _ _) (int___rmul___int_list k t l its.toArray n)
      ⟨e, rfl, ⟨_, e, rfl⟩, call_meets F.slot_list_mul ⟨_, e, rfl⟩ F.entry_list_mul (F.args_list_mul_2 _ _) (AutoListH.list___mul___list_int_3 l its.toArray n k t hfit hcap hlong) ⟨e, ?_⟩⟩)
  rw [hnew]
  exact ⟨.ref _, _, I.lnew (t' := s.toks) (r.rep k.toNat) (by rw [PyProof.Rows.lm_len_rep_flat, Nat.mul_comm]; exact hz), rfl, q _ I.fresh⟩
@[simp] def itemsT : SV → Option (List SV)
  | .own ts => some ts
  | .dat (.lst ds) => some (ds.map SV.dat)
  | _ => none
def addT : SV → SV → (SV → Prop) → Prop
  | .dat (.int i), .dat (.int j), P => P (.dat (.int (i + j)))
  | .dat (.str x), .dat (.str y), P => x.length + y.length ≤ sizeLine ∧ P (.dat (.str (x ++ y)))
  | x, y, P => ∃ l m, itemsT x = some l ∧ itemsT y = some m ∧ l.length + m.length ≤ sizeLine ∧ P (.own (l ++ m))
@[simp] def fAddE (fa fb : FE) : FE := fun ρ Q => fa ρ fun x ρ1 => fb ρ1 fun y ρ2 => addT x y fun r => Q r ρ2
theorem items_of {K : PySem.W.Frag} {G H : Hp} {v : V} {t : SV} {f : List Addr} {l : List SV} (o : OT K G H v t f) (sub : Sub G H) (e : itemsT t = some l) : ∃ a xs f', v = .ref a ∧ Rd H a (.lst xs) ∧ OTs K G H xs l f' ∧ ∀ x ∈ f', x ∈ f := by
  cases t with
  | own ts =>
    have : ts = l := Option.some.inj e
    subst this
    obtain ⟨a, vs, f', ev, ef, h, _, os, _⟩ := o.own_inv
    exact ⟨a, vs, f', ev, .inl h, os, fun x m => by rw [ef]; exact List.mem_cons_of_mem _ m⟩
  | dat d =>
    cases d with
    | lst ds =>
      have : ds.map SV.dat = l := Option.some.inj e
      subst this
      obtain ⟨a, xs, ev, h, r⟩ := o.dat_inv.1.lst_inv
      exact ⟨a, xs, [], ev, sub.rd h, r.ots, fun _ z => nomatch z⟩
    | _ => cases e
  | ob _ _ => cases e
theorem OTs.append {K : PySem.W.Frag} {G H : Hp} {w : List V} {u : List SV} {f2 : List Addr} : ∀ {vs : List V} {ts : List SV} {f1 : List Addr}, OTs K G H vs ts f1 → OTs K G H w u f2 → (∀ a ∈ f1, a ∉ f2) → OTs K G H (vs ++ w) (ts ++ u) (f1 ++ f2)
  | _, _, _, .nil, o, _ => o
  | _, _, _, .cons (f1 := fa) (f2 := fb) a b d, o, h => by
    have ih := OTs.append b o fun x m => h x (List.mem_append_right _ m)
    have := OTs.cons a ih fun x m m' => (List.mem_append.mp m').elim (d x m) (h x (List.mem_append_left _ m))
    simpa [List.append_assoc] using this
theorem op_addA : OpR X (binaryOp .Add) (fun x y H Q => rI0 (fun i j => .int (i + j)) x y H Q ∨ (∃ i j, x = .str i ∧ y = .str j ∧ i.length + j.length ≤ sizeLine ∧ Q (.str (i ++ j)) H) ∨ rCatR x y H Q) := op_add.or (op_add_str.or op_catR)
/-- two trees in a row: the first one is held while the second one is worked out -/
theorem two_trees {K : PySem.W.Frag} {io : List Nat} {ta tb : TE} {fa fb : FE} (a2 : DE K io ta fa) (b2 : DE K io tb fb) {B : Bs} {G H : Hp} {σ : L2.St} {ρ : Rho} {fp : Nat → List Addr} {R2 : V → V → Hp → Prop} {Qd : SV → SV → Rho → Prop} (hB : B.io = io) (R : Rp K B G H σ ρ fp) (hf : fa ρ fun x ρ1 => fb ρ1 fun y ρ2 => Qd x y ρ2)
    (k : ∀ x y ρ2 v w G2 H2 fp2 f1 f2, Nxt K B σ G H fp G2 H2 ρ2 fp2 → OT K G2 H2 v x f1 → OT K G2 H2 w y f2 → (∀ a ∈ f1, a ∉ f2) → (∀ a ∈ f1, ¬ In fp2 a) → (∀ a ∈ f2, ¬ In fp2 a) → (∀ a ∈ f1, H a = none ∨ In fp a) → (∀ a ∈ f2, H a = none ∨ In fp a) → Qd x y ρ2 → R2 v w H2) :
    ta σ H fun x H1 => tb σ H1 fun y H2 => R2 x y H2 := by
  refine a2 B G H σ ρ fp _ _ hB R hf fun x ρ1 v1 G1 H1 fp1 f1 n1 o1 t1 t1' hf => ?_
  refine b2 B G1 H1 σ ρ1 fp1 _ _ hB n1.rp hf fun y ρ2 w G2 H2 fp2 f2 n2 o2 t2 t2' q => ?_
  have o1' : OT K G2 H2 v1 x f1 := o1.mono n2.st.ex (fun a m o h => n2.st.keep a o (t1 a m) h) fun a m => by
    obtain ⟨⟨u, h⟩, g⟩ := o1.here a m
    exact n2.st.hid a u (t1 a m) h g
  refine k x y ρ2 v1 w G2 H2 fp2 f1 f2 (n1.trans n2) o1' o2 (fun a m m' => ?_) (fun a m i => ?_) t2 t1' (fun a m => ?_) q
  · rcases t2' a m' with z | z
    · obtain ⟨⟨u, h⟩, _⟩ := o1.here a m
      rw [z] at h; cases h
    · exact t1 a m z
  · rcases n2.inn a i with z | z
    · exact t1 a m z
    · obtain ⟨⟨u, h⟩, _⟩ := o1.here a m
      rw [z] at h; cases h
  · rcases t2' a m with z | z
    · by_cases q : In fp a
      · exact .inr q
      · exact .inl (n1.st.fresh q z)
    · exact (n1.inn a z).symm
variable {fa fb : FE}
theorem addT_cases {x y : SV} {P : SV → Prop} (h : addT x y P) : (∃ i j, x = .dat (.int i) ∧ y = .dat (.int j) ∧ P (.dat (.int (i + j)))) ∨ (∃ i j : Str, x = .dat (.str i) ∧ y = .dat (.str j) ∧ i.length + j.length ≤ sizeLine ∧ P (.dat (.str (i ++ j)))) ∨
    ∃ l m, itemsT x = some l ∧ itemsT y = some m ∧ l.length + m.length ≤ sizeLine ∧ P (.own (l ++ m)) := by
  unfold addT at h
  split at h
  · exact .inl ⟨_, _, rfl, rfl, h⟩
  · exact .inr (.inl ⟨_, _, rfl, rfl, h⟩)
  · exact .inr (.inr h)
theorem e_add (ha : PDe X io a fa) (hb : PDe X io b fb) : PDe X io (.BinOp a .Add b pos) (fAddE fa fb) := by
  obtain ⟨ta, a1, a2⟩ := ha
  obtain ⟨tb, b1, b2⟩ := hb
  refine ⟨_, pe_op op_addA a1 b1, fun B G H σ ρ fp Qd Q hB R hf k => ?_⟩
  refine two_trees a2 b2 (Qd := fun x y ρ2 => addT x y fun r => Qd r ρ2) hB R hf fun x y ρ2 v w G2 H2 fp2 f1 f2 n o1 o2 d12 n1 n2 t1 t2 q => ?_
  rcases addT_cases q with ⟨i, j, rfl, rfl, q⟩ | ⟨i, j, rfl, rfl, z, q⟩ | ⟨l, m, el, em, z, q⟩
  · exact .inl ⟨i, j, o1.dat_inv.1.int_inv, o2.dat_inv.1.int_inv, k _ _ _ _ _ _ [] n (.dat (.int _)) (fun _ z => nomatch z) (fun _ z => nomatch z) q⟩
  · exact .inr (.inl ⟨i, j, o1.dat_inv.1.str_inv, o2.dat_inv.1.str_inv, z, k _ _ _ _ _ _ [] n (.dat (.str _)) (fun _ z => nomatch z) (fun _ z => nomatch z) q⟩)
  · obtain ⟨p, xs, g1, ev, h1, os1, s1⟩ := items_of o1 n.rp.co.sub el
    obtain ⟨p2, ys, g2, ew, h2, os2, s2⟩ := items_of o2 n.rp.co.sub em
    refine .inr (.inr ⟨p, p2, xs, ys, ev, ew, h1, h2, by rw [os1.length, os2.length]; exact z, ?_⟩)
    exact new_own R n (os1.append os2 fun a m m' => d12 a (s1 a m) (s2 a m')) (fun a m => (List.mem_append.mp m).elim (fun m => n1 a (s1 a m)) fun m => n2 a (s2 a m)) (fun a m => (List.mem_append.mp m).elim (fun m => t1 a (s1 a m)) fun m => t2 a (s2 a m))
      fun v G'' H'' fp'' fr' n' ot' u1 u2 => k _ _ _ _ _ _ _ n' ot' u1 u2 q
def repT (l : List DD) (k : Int) : List DD := (List.replicate k.toNat l).flatten
@[simp] def fRep (fa fb : FE) : FE := fun ρ Q => fa ρ fun x ρ1 => fb ρ1 fun y ρ2 => ∃ (l : List DD) (j : Int), itemsT x = some (l.map SV.dat) ∧ y = .dat (.int j) ∧ -(2 ^ 63) ≤ j ∧ j < 2 ^ 63 ∧ l.length * j.toNat ≤ sizeLine ∧ Q (.own ((repT l j).map SV.dat)) ρ2
theorem RqA.rep {K : PySem.W.Frag} {G : Hp} {vs : List V} {ds : List DD} (h : RqA K G vs ds) : ∀ n : Nat, RqA K G (List.replicate n vs).flatten (List.replicate n ds).flatten
  | 0 => .nil
  | n + 1 => by
    rw [List.replicate_succ, List.replicate_succ, List.flatten_cons, List.flatten_cons]
    exact h.append (RqA.rep h n)
theorem e_rep (ha : PDe X io a fa) (hb : PDe X io b fb) : PDe X io (.BinOp a .Mult b pos) (fRep fa fb) := by
  obtain ⟨ta, a1, a2⟩ := ha
  obtain ⟨tb, b1, b2⟩ := hb
  refine ⟨_, pe_op op_repR a1 b1, fun B G H σ ρ fp Qd Q hB R hf k => ?_⟩
  refine two_trees a2 b2 hB R hf fun x y ρ2 v w G2 H2 fp2 f1 f2 n o1 o2 d12 n1 n2 t1 t2 ⟨l, j, el, ey, j1, j2, hz, q⟩ => ?_
  subst ey
  obtain ⟨p, xs, g1, ev, h1, os1, s1⟩ := items_of o1 n.rp.co.sub el
  obtain ⟨r, _⟩ := os1.dats
  exact ⟨p, j, xs, ev, o2.dat_inv.1.int_inv, h1, j1, j2, by rw [r.length]; exact hz, new_own R n (r.rep j.toNat).ots (fun _ z => nomatch z) (fun _ z => nomatch z) fun v G'' H'' fp'' fr' n' ot' u1 u2 => k _ _ _ _ _ _ _ n' ot' u1 u2 q⟩
end
end DL

namespace DL
open PySem PySem.Spec PyProof.Rows L2
section
variable {X : Cx} {io ks : List Nat} {e a b : Expr} {pos p : Pos} {fa fb : FO}
/-! list(x), tuple(x) -/
def lstT : SV → (List DD → Prop) → Prop
  | .dat (.lst ds), P => P ds
  | .dat (.tup ds), P => P ds
  | .own ts, P => ∃ ds : List DD, ts = ds.map SV.dat ∧ P ds
  | _, _ => False
@[simp] def fLstOf (fa : FO) : FE := fun ρ Q => fa ρ fun x ρ1 => ∃ t, resT ρ1 x = some t ∧ lstT t fun ds => Q (.own (ds.map SV.dat)) ρ1
theorem lstT_of {K : PySem.W.Frag} {G H : Hp} {v : V} {t : SV} {f : List Addr} {P : List DD → Prop} (o : OT K G H v t f) (sub : Sub G H) (h : lstT t P) : ∃ a ys ds, v = .ref a ∧ (SqL K H a ys ∨ SqT K H a ys) ∧ RqA K G ys ds ∧ P ds := by
  unfold lstT at h
  split at h
  · obtain ⟨a, xs, ev, h1, r⟩ := o.dat_inv.1.lst_inv
    exact ⟨a, xs, _, ev, .inl (.inl (sub.rd h1)), r, h⟩
  · obtain ⟨a, xs, ev, h1, r⟩ := o.dat_inv.1.tup_inv
    exact ⟨a, xs, _, ev, .inr (sub.t h1), r, h⟩
  · obtain ⟨ds, rfl, q⟩ := h
    obtain ⟨a, vs, f', ev, ef, h1, _, os, _⟩ := o.own_inv
    exact ⟨a, vs, ds, ev, .inl (.inl (.inl h1)), os.dats.1, q⟩
  · exact h.elim
theorem e_list (hm : X.mg "list" = none) (ha : PDo X io a fa) (hg : Gl X "list" := by rfl) (he : starEach [a] X.env = (false, eval a X.env) :: starEach [] X.env := by rfl) (hpl : (backTo pos (starEach [] X.env)).any (·.1) = false := by rfl) : PDe X io (.Call (.Name "list" p) [a] [] pos) (fLstOf fa) := by
  obtain ⟨ta, a1, a2⟩ := ha
  refine ⟨_, pe_callTy call_list_of hg hm (by decide +kernel) (pa_cons a1 pa_nil he) (by decide) (by decide) he hpl, fun B G H σ ρ fp Qd Q hB R hf k => ?_⟩
  refine a2 B G H σ ρ fp _ _ hB R hf fun x ρ1 v1 G1 H1 fp1 n1 o1 ⟨t, e1, q⟩ => ?_
  obtain ⟨f, ot, hin⟩ := o1.tree n1.rp e1
  obtain ⟨p, ys, ds, ev, h, r, q⟩ := lstT_of ot n1.rp.co.sub q
  exact ⟨p, ys, by rw [ev], h, new_own R n1 r.ots (fun _ z => nomatch z) (fun _ z => nomatch z) fun v G'' H'' fp'' fr' n' ot' u1 u2 => k _ _ _ _ _ _ _ n' ot' u1 u2 q⟩
@[simp] def fTupOf (fe : FE) : FV := fun ρ Q => fe ρ fun t ρ1 => ∃ ds, (t.data = .lst ds ∨ t.data = .tup ds) ∧ Q (.tup ds) ρ1
theorem v_tuple {fe : FE} (hm : X.mg "tuple" = none) (ha : PDe X io a fe) (hg : Gl X "tuple" := by rfl) (he : starEach [a] X.env = (false, eval a X.env) :: starEach [] X.env := by rfl) (hpl : (backTo pos (starEach [] X.env)).any (·.1) = false := by rfl) : PDv X io (.Call (.Name "tuple" p) [a] [] pos) (fTupOf fe) := by
  obtain ⟨ta, a1, a2⟩ := ha
  refine ⟨_, pe_callTy call_tuple_of hg hm (by decide +kernel) (pa_cons a1 pa_nil he) (by decide) (by decide) he hpl, fun B G H σ ρ fp Qd Q hB R hf k => ?_⟩
  refine a2 B G H σ ρ fp _ _ hB R hf fun t ρ1 v1 G1 H1 fp1 fr n1 ot t1 t2 ⟨ds, e1, q⟩ => ?_
  obtain ⟨n2, r⟩ := Nxt.sealed R n1 ot t1 t2
  rcases e1 with e1 | e1
  · rw [e1] at r
    obtain ⟨p, xs, ev, h, rs⟩ := r.lst_inv
    refine ⟨p, xs, by rw [ev], .inl ⟨.inl (n2.rp.co.sub.rd h), fun l hl => ?_⟩⟩
    have n3 := n2.trans (Nxt.stand n2.rp (o := .tup xs) hl)
    refine k _ _ _ _ _ _ n3 (.tup (.inl (.inl upd_same)) (rs.mono fun a o e => ?_)) q
    have ne : a ≠ l := fun z => by
      have := n2.rp.co.sub _ _ e
      rw [z, hl] at this; cases this
    rw [upd_ne ne]; exact e
  · rw [e1] at r
    obtain ⟨p, xs, ev, h, rs⟩ := r.tup_inv
    exact ⟨p, xs, by rw [ev], .inr ⟨n2.rp.co.sub.t h, k _ _ _ _ _ _ n2 (.tup h rs) q⟩⟩
/-! changes in place -/
theorem In_fp {fp : Nat → List Addr} {i : Nat} {a : Addr} (m : a ∈ fp i) : In fp a := ⟨i, m⟩
/-- the list that slot i holds is rewritten -/
theorem Nxt.rewrite {K : PySem.W.Frag} {B : Bs} {σ : L2.St} {G H G' H' : Hp} {ρ ρ' : Rho} {fp fp' : Nat → List Addr} {i : Nat} {a : Addr} {f f' : List Addr} {ts' : List SV} {vs' : List V} {t0 : SV} (R : Rp K B G H σ ρ fp) (n : Nxt K B σ G H fp G' H' ρ' fp')
    (hi : ρ'[i]? = some (some t0)) (hs : σ[i]? = some (some (.ref a))) (hf : fp' i = a :: f) (ha : ∃ o, H' a = some o) (ga : G' a = none) (os : OTs K G' H' vs' ts' f') (na : a ∉ f') (hf' : ∀ x ∈ f', x ∈ f ∨ (¬ In fp' x ∧ (H x = none ∨ In fp x))) :
    Nxt K B σ G H fp G' (upd H' a (.lst vs')) (ρ'.set i (some (.own ts'))) (fun j => if j = i then a :: f' else fp' j) := by
  have il : i < ρ'.length := (List.getElem?_eq_some_iff.mp hi).1
  have ain : In fp' a := ⟨i, by rw [hf]; exact List.mem_cons_self⟩
  have ne : ∀ {j x}, j ≠ i → x ∈ fp' j → x ≠ a := fun {j x} nj m e => by
    subst e
    exact nj (n.rp.co.dis j i x m (by rw [hf]; exact List.mem_cons_self))
  have hin : ∀ x, In (fun j => if j = i then a :: f' else fp' j) x → In fp' x ∨ (H x = none ∨ In fp x) := fun x ⟨j, m⟩ => by
    by_cases e : j = i
    · simp only [if_pos e] at m
      rcases List.mem_cons.mp m with z | m
      · exact .inl (z ▸ ain)
      · rcases hf' x m with z | ⟨_, z⟩
        · exact .inl ⟨i, by rw [hf]; exact List.mem_cons_of_mem _ z⟩
        · exact .inr z
    · simp only [if_neg e] at m
      exact .inl ⟨j, m⟩
  have base : ∀ x, In fp' x → In B.fp0 x ∨ B.H0 x = none := n.rp.own
  refine ⟨⟨⟨by rw [List.length_set]; exact n.rp.co.len, fun x u e => ?_, fun j t h => ?_, fun j h => ?_, fun j l x m1 m2 => ?_⟩, ⟨n.rp.stp.ex, fun x u h e => ?_, n.rp.stp.hid⟩, fun x h => ?_, fun j m => ?_, n.rp.lo⟩, ⟨n.st.ex, fun x u h e => ?_, n.st.hid⟩, fun x h => ?_⟩
  · have : x ≠ a := fun z => by rw [z, ga] at e; cases e
    rw [upd_ne this]; exact n.rp.co.sub x u e
  · by_cases e : j = i
    · subst e
      rw [List.getElem?_set_self il] at h
      injection h with h; injection h with h
      subst h
      refine ⟨_, hs, ?_⟩
      simp only [if_true]
      exact .own upd_same ga (os.mono (Sub.refl _) (fun x m u e => by rw [upd_ne (fun z : x = a => na (z ▸ m))]; exact e) fun x m => (os.here x m).2) na
    · rw [List.getElem?_set_ne (Ne.symm e)] at h
      obtain ⟨v, e1, ot⟩ := n.rp.co.slot j t h
      refine ⟨v, e1, ?_⟩
      simp only [if_neg e]
      exact ot.mono (Sub.refl _) (fun x m u e2 => by rw [upd_ne (ne e m)]; exact e2) fun x m => (ot.here x m).2
  · by_cases e : j = i
    · subst e; exact absurd (List.getElem?_set_self il) (h _)
    · simp only [if_neg e]
      exact n.rp.co.nil j fun t q => h t (by rw [List.getElem?_set_ne (Ne.symm e)]; exact q)
  · have key : ∀ {j l}, j = i → l ≠ i → x ∈ a :: f' → x ∈ fp' l → False := fun {j l} e1 e2 m1 m2 => by
      rcases List.mem_cons.mp m1 with z | m1
      · exact ne e2 m2 z
      · rcases hf' x m1 with z | ⟨z, _⟩
        · exact e2 (n.rp.co.dis l i x m2 (by rw [hf]; exact List.mem_cons_of_mem _ z))
        · exact z ⟨l, m2⟩
    by_cases e1 : j = i
    · by_cases e2 : l = i
      · rw [e1, e2]
      · simp only [if_pos e1] at m1
        simp only [if_neg e2] at m2
        exact (key e1 e2 m1 m2).elim
    · by_cases e2 : l = i
      · simp only [if_neg e1] at m1
        simp only [if_pos e2] at m2
        exact (key e2 e1 m2 m1).elim
      · simp only [if_neg e1] at m1
        simp only [if_neg e2] at m2
        exact n.rp.co.dis j l x m1 m2
  · have : x ≠ a := fun z => by
      subst z
      rcases base x ain with y | y
      · exact h y
      · rw [e] at y; cases y
    rw [upd_ne this]; exact n.rp.stp.keep x u h e
  · rcases hin x h with z | z
    · exact base x z
    · exact R.base (fr := [x]) (fun y m => by have : y = x := by simpa using m
                                              subst this; exact z) x List.mem_cons_self
  · obtain ⟨w, t, e1, e2, e3⟩ := n.rp.io j m
    by_cases e : j = i
    · subst e; exact ⟨w, _, e1, e2, List.getElem?_set_self il⟩
    · exact ⟨w, t, e1, e2, by rw [List.getElem?_set_ne (Ne.symm e)]; exact e3⟩
  · have : x ≠ a := fun z => by
      subst z
      rcases n.inn x ain with y | y
      · exact h y
      · rw [e] at y; cases y
    rw [upd_ne this]; exact n.st.keep x u h e
  · rcases hin x h with z | z
    · exact n.inn x z
    · exact z.symm
/-- the list in slot i, as it stands -/
theorem Rp.ownAt {K : PySem.W.Frag} {B : Bs} {σ : L2.St} {G H : Hp} {ρ : Rho} {fp : Nat → List Addr} (R : Rp K B G H σ ρ fp) {i : Nat} {ts : List SV} (h : ρ[i]? = some (some (.own ts))) : ∃ a vs f, σ[i]? = some (some (.ref a)) ∧ fp i = a :: f ∧ H a = some (.lst vs) ∧ G a = none ∧ OTs K G H vs ts f ∧ a ∉ f := by
  obtain ⟨v, e1, ot⟩ := R.co.slot i _ h
  obtain ⟨a, vs, f, ev, ef, h1, h2, os, n⟩ := ot.own_inv
  subst ev
  exact ⟨a, vs, f, e1, ef, h1, h2, os, n⟩
@[simp] def fApp (i : Nat) (fe : FE) : FE := fun ρ Q => (∃ ts0, ρ[i]? = some (some (.own ts0))) ∧ fe ρ fun r ρ1 => ∃ ts, ρ1[i]? = some (some (.own ts)) ∧ ts.length < sizeLine ∧ Q (.dat .non) (ρ1.set i (some (.own (ts ++ [r]))))
theorem e_app {te : TE} {fe : FE} {o : Expr} {apos : Pos} (i : Nat) (ho : PE X o te) (ht : te = tVar i) (h : PDe X io e fe) (hs : starEach (e :: []) X.env = (false, eval e X.env) :: starEach [] X.env := by rfl)
    (hbm : ∀ t, PA X [e] t → PE X (.Call (.Attribute o "append" apos) [e] [] pos) (tBM X.K "list" rAppend (tVar i) t)) : PDe X io (.Call (.Attribute o "append" apos) [e] [] pos) (fApp i fe) := by
  subst ht
  obtain ⟨ta, a1, a2⟩ := h
  refine ⟨_, hbm _ (pa_cons a1 pa_nil hs), fun B G H σ ρ fp Qd Q hB R hf k => ?_⟩
  obtain ⟨⟨ts0, e0⟩, hf⟩ := hf
  obtain ⟨l, vs0, f0, s0, _, h0, _, _, _⟩ := R.ownAt e0
  refine ⟨.ref l, s0, .inl ⟨rfl, _, .inl (.inl h0)⟩, ?_⟩
  refine a2 B G H σ ρ fp _ _ hB R hf fun r ρ1 v G1 H1 fp1 fr n1 ot t1 t2 ⟨ts, e1, hz, q⟩ => ?_
  obtain ⟨l', vs, f, s1, ef, h1, g1, os, nl⟩ := n1.rp.ownAt e1
  have : l = l' := by rw [s0] at s1; injection s1 with z; injection z with z; injection z
  subst this
  have nfr : ∀ x ∈ fr, x ∉ l :: f := fun x m m' => t1 x m ⟨i, by rw [ef]; exact m'⟩
  have n2 := Nxt.rewrite (i := i) (a := l) R n1 e1 s1 ef ⟨_, h1⟩ g1 (os.snoc ot fun x m m' => nfr x m' (List.mem_cons_of_mem _ m)) (fun m => (List.mem_append.mp m).elim nl fun m => nfr l m List.mem_cons_self)
    (fun x m => (List.mem_append.mp m).elim .inl fun m => .inr ⟨t1 x m, t2 x m⟩)
  exact ⟨l, vs, v, rfl, rfl, h1, by rw [os.length]; exact hz, k _ _ _ _ _ _ [] n2 (.dat .non) (fun _ z => nomatch z) (fun _ z => nomatch z) q⟩
@[simp] def fPop (i : Nat) : FE := fun ρ Q => ∃ ts t, ρ[i]? = some (some (.own ts)) ∧ ts[ts.length - 1]? = some t ∧ Q t (ρ.set i (some (.own ts.dropLast)))
theorem OTs.unsnoc {K : PySem.W.Frag} {G H : Hp} : ∀ {ts : List SV} {t : SV} {vs : List V} {f : List Addr}, OTs K G H vs (ts ++ [t]) f → ∃ ws w f1 f2, vs = ws ++ [w] ∧ OTs K G H ws ts f1 ∧ OT K G H w t f2 ∧ (∀ a ∈ f1, a ∉ f2) ∧ (∀ a ∈ f1, a ∈ f) ∧ ∀ a ∈ f2, a ∈ f
  | [], t, vs, f, h => by
    cases h with
    | cons a b d =>
      cases b
      exact ⟨[], _, [], _, rfl, .nil, a, by simp, by simp, fun x m => List.mem_append_left _ m⟩
  | u :: ts, t, vs, f, h => by
    rw [List.cons_append] at h
    cases h with
    | cons a b d =>
      obtain ⟨ws, w, f1, f2, rfl, o1, o2, d12, i1, i2⟩ := OTs.unsnoc b
      refine ⟨_ :: ws, w, _, f2, rfl, .cons a o1 fun x m m' => d x m (i1 x m'), o2, fun x m m' => ?_, fun x m => ?_, fun x m => List.mem_append_right _ (i2 x m)⟩
      · rcases List.mem_append.mp m with m | m
        · exact d x m (i2 x m')
        · exact d12 x m m'
      · rcases List.mem_append.mp m with m | m
        · exact List.mem_append_left _ m
        · exact List.mem_append_right _ (i1 x m)
theorem last_split {α : Type} {l : List α} {t : α} (h : l[l.length - 1]? = some t) : l = l.dropLast ++ [t] := by
  cases l with
  | nil => simp at h
  | cons a r =>
    have ne : a :: r ≠ [] := List.cons_ne_nil _ _
    have : (a :: r).getLast ne = t := by
      have := List.getLast?_eq_getElem? (l := a :: r)
      rw [h] at this
      rw [List.getLast?_eq_some_getLast ne] at this
      injection this
    rw [← this]
    exact (List.dropLast_concat_getLast ne).symm
theorem e_pop {te : TE} {o : Expr} {apos : Pos} (i : Nat) (ho : PE X o te) (ht : te = tVar i) (hbm : PE X (.Call (.Attribute o "pop" apos) [] [] pos) (tBM0 X.K "list" rPop (tVar i))) : PDe X io (.Call (.Attribute o "pop" apos) [] [] pos) (fPop i) := by
  subst ht
  refine ⟨_, hbm, fun B G H σ ρ fp Qd Q hB R hf k => ?_⟩
  obtain ⟨ts, t, e0, el, q⟩ := hf
  obtain ⟨l, vs, f, s0, ef, h0, g0, os, nl⟩ := R.ownAt e0
  have sp := last_split el
  rw [sp] at os
  obtain ⟨ws, w, f1, f2, ev, o1, o2, d12, i1, i2⟩ := os.unsnoc
  subst ev
  refine ⟨.ref l, s0, .inl ⟨rfl, _, .inl (.inl h0)⟩, l, _, w, rfl, rfl, h0, by simp, ?_⟩
  have e3 : (ws ++ [w]).dropLast = ws := by simp
  rw [e3]
  have n2 := Nxt.rewrite (i := i) (a := l) R (Nxt.refl R) e0 s0 ef ⟨_, h0⟩ g0 o1 (fun m => nl (i1 l m)) (fun x m => .inl (i1 x m))
  have ne : ∀ x ∈ f2, x ≠ l := fun x m z => nl (z ▸ i2 x m)
  refine k t _ w _ _ _ f2 n2 (o2.mono (Sub.refl _) (fun x m u e => by rw [upd_ne (ne x m)]; exact e) fun x m => (o2.here x m).2) (fun x m ⟨j, z⟩ => ?_) (fun x m => .inr ⟨i, by rw [ef]; exact List.mem_cons_of_mem _ (i2 x m)⟩) q
  by_cases e : j = i
  · simp only [if_pos e] at z
    rcases List.mem_cons.mp z with z | z
    · exact ne x m z
    · exact d12 x z m
  · simp only [if_neg e] at z
    exact e (R.co.dis j i x z (by rw [ef]; exact List.mem_cons_of_mem _ (i2 x m)))
theorem OTs.setD {K : PySem.W.Frag} {G H : Hp} {v : V} {d : DD} (r : Rq K G v d) : ∀ {vs : List V} {ts : List SV} {f : List Addr} (j : Nat), OTs K G H vs ts f → ∃ f', OTs K G H (vs.set j v) (ts.set j (.dat d)) f' ∧ ∀ x ∈ f', x ∈ f
  | _, _, _, _, .nil => ⟨[], .nil, fun _ z => z⟩
  | _, _, _, 0, .cons a b dd => ⟨_, OTs.cons (.dat r) b (fun _ z => nomatch z), fun x m => List.mem_append_right _ (by simpa using m)⟩
  | _, _, _, j + 1, .cons a b dd => by
    obtain ⟨f', o, i⟩ := OTs.setD r j b
    exact ⟨_, OTs.cons a o fun x m m' => dd x m (i x m'), fun x m => (List.mem_append.mp m).elim (List.mem_append_left _) fun m => List.mem_append_right _ (i x m)⟩
/-- xs[k] = e, xs the list that slot s holds -/
@[simp] def fSetIt (s : Nat) (fv : FV) (fo : FO) : FS := fun D ρ => fv ρ fun d ρ1 => (∃ t, ρ1[s]? = some (some t)) ∧ fo ρ1 fun x ρ2 => ∃ k ts j, resD ρ2 x = some (.int k) ∧ ρ2[s]? = some (some (.own ts)) ∧ ixN ts.length k = some j ∧ D.nx (ρ2.set s (some (.own (ts.set j (.dat d)))))
theorem s_setit {te : TE} {fv : FV} {fo : FO} {o : Expr} {p2 : Pos} (s : Nat) (ho : PE X o te) (ht : te = tVar s) (hv : PDv X io e fv) (hi : PDo X io b fo)
    (ha : ∀ v, assign (.Subscript o b p2) X.env v = (do
      let ov ← holding [v] (eval o X.env)
      let iv ← holding [v, ov] (eval b X.env)
      standAt p2
      holding [v, ov, iv] (setItem ov iv v)
      release [v, ov, iv] []) := by intro _; rfl)
    (hs : swapsWithSole [.Subscript o b p2] e pos.line X.env = pure false := by rfl) (hw : swappedStores [.Subscript o b p2] e X.env = pure none := by rfl)
    (h1 : (assignEach [.Subscript o b p2] X.env).map (·.2) = [assign (.Subscript o b p2) X.env] := by rfl) : PDs X io (.Assign [.Subscript o b p2] e pos) (fSetIt s fv fo) := by
  subst ht
  obtain ⟨_, v1, v2⟩ := hv
  obtain ⟨_, i1, i2⟩ := hi
  refine ⟨_, ps_asg v1 (pg_sub ho i1 set_list ha) hs hw h1, fun B G H σ ρ fp Dd Dh hB R hf sm => ?_⟩
  refine v2 B G H σ ρ fp _ _ hB R hf fun d ρ1 v G1 H1 fp1 n1 r ⟨⟨t0, e0⟩, hf⟩ => ?_
  obtain ⟨z, ez, _⟩ := n1.rp.co.slot s t0 e0
  refine ⟨z, ez, ?_⟩
  refine i2 B G1 H1 σ ρ1 fp1 _ _ hB n1.rp hf fun x ρ2 u G2 H2 fp2 n2 o2 ⟨k, ts, j, ek, es, ej, q⟩ => ?_
  obtain ⟨l, vs, f, s0, ef, h0, g0, os, nl⟩ := n2.rp.ownAt es
  have : z = .ref l := by rw [ez] at s0; injection s0 with y; injection y
  subst this
  obtain ⟨f', o', i'⟩ := os.setD (r.mono n2.st.ex) j
  have n3 := Nxt.rewrite (i := s) (a := l) n1.rp n2 es s0 ef ⟨_, h0⟩ g0 o' (fun m => nl (i' l m)) (fun x m => .inl (i' x m))
  exact ⟨l, vs, k, j, rfl, (o2.rqH n2.rp ek).int_inv, h0, by rw [os.length]; exact ej, sm.nx _ _ _ _ _ n3.rp q⟩
/-- xs[k] op= e -/
theorem get_listV : PGet X (rIxL X.K) := by
  intro pins s σ H x y v u Q I rx ry h
  obtain ⟨p, xs, i, z, rfl, rfl, hq, he, q⟩ := h
  cases rx
  obtain ⟨t, rfl⟩ := ry
  obtain ⟨its, r, pl, hz⟩ := I.list hq
  obtain ⟨j, h1, h2, h3, h4, h5⟩ := atI_get he
  obtain ⟨w, ew, rw'⟩ := r.get h2
  have hl := r.length
  have hn := line63
  have fin : EP X pins σ Q w s := ⟨z, H, I, rw', q⟩
  by_cases h0 : 0 ≤ i
  · have hj : i.toNat = j := by
      rw [seqIndex_of h0 h5] at h1
      exact Option.some.inj h1
    exact wpAny_getItem_list (x := w) pl.isList h0 (by omega) (by rw [hj]; simpa using ew) fin
  · have hj : (i + (its.toArray.size : Int)).toNat = j := by
      rw [seqIndex_neg (by omega) h4] at h1
      rw [List.size_toArray, ← hl]
      exact Option.some.inj h1
    exact wpAny_getItem_list_neg (x := w) pl.isList (by omega) (by rw [List.size_toArray] <;> omega) (by omega) (by rw [hj]; simpa using ew) fin
@[simp] def fAugIt (s : Nat) (fo : FO) (fv : FV) (op : Int → Int → Int) : FS := fun D ρ => (∃ t, ρ[s]? = some (some t)) ∧ fo ρ fun x ρ1 => ∃ (k n : Int) (ts1 : List SV), resD ρ1 x = some (.int k) ∧ ρ1[s]? = some (some (.own ts1)) ∧ atI ts1 k = some (.dat (.int n)) ∧
  fv ρ1 fun d ρ2 => ∃ (m : Int) (ts : List SV) (j : Nat), d = .int m ∧ ρ2[s]? = some (some (.own ts)) ∧ ixN ts.length k = some j ∧ D.nx (ρ2.set s (some (.own (ts.set j (.dat (.int (op n m)))))))
theorem s_augit {te : TE} {fv : FV} {fo : FO} {o : Expr} {p2 : Pos} {op : Operator} {g : Int → Int → Int} (hp : PIp X op (ipI g)) (s : Nat) (ho : PE X o te) (ht : te = tVar s) (hi : PDo X io b fo) (hv : PDv X io e fv)
    (ha : ∀ ov iv new, augStore b ov iv new = (do holding [new, ov, iv] (setItem ov iv new); release [new, ov, iv] []; pure .next) := by intros; rfl) : PDs X io (.AugAssign (.Subscript o b p2) op e pos) (fAugIt s fo fv g) := by
  subst ht
  obtain ⟨_, v1, v2⟩ := hv
  obtain ⟨_, i1, i2⟩ := hi
  refine ⟨_, ps_augS ho i1 get_listV v1 hp set_list ha, fun B G H σ ρ fp Dd Dh hB R hf sm => ?_⟩
  obtain ⟨⟨t0, e0⟩, hf⟩ := hf
  obtain ⟨z, ez, _⟩ := R.co.slot s t0 e0
  refine ⟨z, ez, ?_⟩
  refine i2 B G H σ ρ fp _ _ hB R hf fun x ρ1 u G1 H1 fp1 n1 o1 ⟨k, n, ts1, ek, es1, ea, hf⟩ => ?_
  obtain ⟨l, vs1, f1, s1, _, h1, _, os1, _⟩ := n1.rp.ownAt es1
  have : z = .ref l := by rw [ez] at s1; injection s1 with y; injection y
  subst this
  obtain ⟨w, fw, ew, ow, _⟩ := atI_ots os1 ea
  have hk := (o1.rqH n1.rp ek).int_inv
  refine ⟨l, vs1, k, w, rfl, hk, .inl (.inl h1), ew, ?_⟩
  refine v2 B G1 H1 σ ρ1 fp1 _ _ hB n1.rp hf fun d ρ2 v G2 H2 fp2 n2 r ⟨m, ts, j, ed, es, ej, q⟩ => ?_
  subst ed
  obtain ⟨l', vs, f, s0, ef, h0, g0, os, nl⟩ := n2.rp.ownAt es
  have : l = l' := by rw [s1] at s0; injection s0 with y; injection y with y; injection y
  subst this
  obtain ⟨f', o', i'⟩ := os.setD (v := .int (g n m)) (d := .int (g n m)) (.int _) j
  have n3 := Nxt.rewrite (i := s) (a := l) n1.rp n2 es s0 ef ⟨_, h0⟩ g0 o' (fun m => nl (i' l m)) (fun x m => .inl (i' x m))
  exact ⟨n, m, ow.dat_inv.1.int_inv, r.int_inv, l, vs, k, j, rfl, hk, h0, by rw [os.length]; exact ej, sm.nx _ _ _ _ _ n3.rp q⟩
end
end DL

namespace DL
open PySem PySem.Spec PyProof.Rows L2
/-! ### a def's body -/
def outsG (io : List Nat) (ρ : Rho) : Nat → List SV → List SV
  | _, [] => []
  | k, t :: r => (if k ∈ io then (ρ[k]?.join).getD t else t) :: outsG io ρ (k + 1) r
def outs (io : List Nat) (as : List SV) (ρ : Rho) : List SV := if io = [] then as else outsG io ρ 0 as
theorem outsG_len (io : List Nat) (ρ : Rho) : ∀ (k : Nat) (as : List SV), (outsG io ρ k as).length = as.length
  | _, [] => rfl
  | k, _ :: r => congrArg (· + 1) (outsG_len io ρ (k + 1) r)
theorem outsG_get {io : List Nat} {ρ : Rho} : ∀ {as : List SV} {k i : Nat} {t : SV}, as[i]? = some t → (outsG io ρ k as)[i]? = some (if k + i ∈ io then (ρ[k + i]?.join).getD t else t)
  | [], _, _, _, h => by simp at h
  | a :: r, k, 0, t, h => by simp at h; subst h; simp [outsG]
  | a :: r, k, i + 1, t, h => by
    have := outsG_get (io := io) (ρ := ρ) (as := r) (k := k + 1) (i := i) (t := t) (by simpa using h)
    rw [outsG]
    simp only [List.getElem?_cons_succ]
    rw [this]
    have e : k + 1 + i = k + (i + 1) := by omega
    rw [e]
theorem outs_len (io : List Nat) (as : List SV) (ρ : Rho) : (outs io as ρ).length = as.length := by
  unfold outs
  split
  · rfl
  · exact outsG_len io ρ 0 as
theorem outs_get {io : List Nat} {as : List SV} {ρ : Rho} {i : Nat} {t : SV} (h : as[i]? = some t) : (outs io as ρ)[i]? = some (if i ∈ io then (ρ[i]?.join).getD t else t) := by
  unfold outs
  split
  · rename_i e
    rw [h, e]; simp
  · have := outsG_get (io := io) (ρ := ρ) (k := 0) h
    simpa using this
theorem Co.pad {K : PySem.W.Frag} {G H : Hp} {vs : List V} {as : List SV} {fp : Nat → List Addr} (c : Co K G H (vs.map some) (as.map some) fp) (n : Nat) : Co K G H (vs.map some ++ List.replicate n none) (as.map some ++ List.replicate n none) fp := by
  have hl := c.len
  simp at hl
  have key : ∀ (i : Nat) t, (as.map some ++ List.replicate n none)[i]? = some (some t) ↔ (as.map some)[i]? = some (some t) := fun i t => by
    by_cases h : i < as.length
    · rw [List.getElem?_append_left (by simpa using h)]
    · rw [List.getElem?_append_right (by simpa using h), List.getElem?_replicate]
      constructor
      · intro e
        split at e <;> cases e
      · intro e
        rw [List.getElem?_eq_none (by simpa using h)] at e; cases e
  refine ⟨by simp [hl], c.sub, fun i t h => ?_, fun i h => c.nil i fun t e => h t ((key i t).mpr e), c.dis⟩
  have h' := (key i t).mp h
  obtain ⟨v, e, o⟩ := c.slot i t h'
  have : i < vs.length := by
    have := (List.getElem?_eq_some_iff.mp e).1
    simpa using this
  exact ⟨v, by rw [List.getElem?_append_left (by simpa using this)]; exact e, o⟩
theorem outs_co {K : PySem.W.Frag} {B : Bs} {σ : L2.St} {G H : Hp} {ρ : Rho} {fp : Nat → List Addr} (R : Rp K B G H σ ρ fp) (c0 : Co K B.G0 B.H0 (B.vs.map some) (B.as.map some) B.fp0)
    (hio : ∀ (i : Nat) t, B.as[i]? = some t → i ∈ B.io ∨ ∃ d, t = .dat d) (hil : ∀ i ∈ B.io, i < B.as.length) : Co K G H (B.vs.map some) ((outs B.io B.as ρ).map some) (fun i => if i ∈ B.io then fp i else []) := by
  have hl := c0.len
  simp at hl
  have at' : ∀ (i : Nat) t, ((outs B.io B.as ρ).map some)[i]? = some (some t) → ∃ u, B.as[i]? = some u ∧ t = if i ∈ B.io then (ρ[i]?.join).getD u else u := fun i t h => by
    rw [List.getElem?_map] at h
    cases q : (outs B.io B.as ρ)[i]? with
    | none => rw [q] at h; cases h
    | some z =>
      rw [q] at h
      simp at h
      subst h
      have li : i < B.as.length := by
        have := (List.getElem?_eq_some_iff.mp q).1
        rwa [outs_len] at this
      refine ⟨B.as[i], List.getElem?_eq_getElem li, ?_⟩
      have := outs_get (io := B.io) (ρ := ρ) (List.getElem?_eq_getElem li)
      rw [q] at this
      exact Option.some.inj this
  refine ⟨by simp [outs_len, hl], R.co.sub, fun i t h => ?_, fun i h => ?_, fun i j a m1 m2 => ?_⟩
  · obtain ⟨u, eu, et⟩ := at' i t h
    by_cases m : i ∈ B.io
    · obtain ⟨v, z, e1, e2, e3⟩ := R.io i m
      rw [if_pos m, e3] at et
      simp at et
      subst et
      obtain ⟨w, e4, o⟩ := R.co.slot i _ e3
      rw [e2] at e4
      have : v = w := by injection e4 with y; injection y
      subst this
      refine ⟨v, by rw [List.getElem?_map, e1]; rfl, ?_⟩
      simp only [if_pos m]; exact o
    · rw [if_neg m] at et
      subst et
      rcases hio i t eu with z | ⟨d, rfl⟩
      · exact absurd z m
      · obtain ⟨v, e1, o⟩ := c0.slot i (.dat d) (by rw [List.getElem?_map, eu]; rfl)
        refine ⟨v, e1, ?_⟩
        simp only [if_neg m]
        exact .dat (o.dat_inv.1.mono R.stp.ex)
  · by_cases m : i ∈ B.io
    · have li := hil i m
      have := outs_get (io := B.io) (ρ := ρ) (List.getElem?_eq_getElem li)
      exact absurd (by rw [List.getElem?_map, this]; rfl) (h _)
    · exact if_neg m
  · by_cases e1 : i ∈ B.io
    · by_cases e2 : j ∈ B.io
      · simp only [if_pos e1] at m1
        simp only [if_pos e2] at m2
        exact R.co.dis i j a m1 m2
      · simp [e2] at m2
    · simp [e1] at m1
section
variable {P : Program} {w : World} {K : PySem.W.Frag} {mg : Str → Option Value} {base : Heap} {f : Addr} {fd : FuncData} {x qual : Str} {params : Arguments} {body : List Stmt} {scope : Scope} {N ps : List Str} {k : Nat}
theorem okG {F : Ctr} {io : List Nat} {fs : FS} (F0 : FunD K x qual params body scope [] [] f fd) (S : FnScope N ps scope)
    (hbody : ∀ (cdv : Value) (A : Around) (outer : List Env) (s : Shared) (H : Hp) (E : XK), RoomG k (A.deeper (envOfC qual scope s.heap.objs.size f cdv)) → PDss (cxOf CX0 P w K mg base N qual scope f cdv A outer s H E).nox io body fs)
    (hlen : ∀ as Q, F as Q → as.length = ps.length) (hio : ∀ as Q, F as Q → ∀ (i : Nat) t, as[i]? = some t → i ∈ io ∨ ∃ d, t = .dat d) (hil : ∀ i ∈ io, i < ps.length)
    (hF : ∀ as Q, F as Q → fs ⟨fun ρ => Q (.dat .non) (outs io as ρ), fun r ρ => Q r (outs io as ρ), fun _ => False, fun _ => False⟩ (as.map some ++ List.replicate (N.length - ps.length) none)) :
    FnG P w K mg base CX0 (k + 1) f fd ps (spD K F) := by
  obtain ⟨oc, od, dV, kV, doc, pm, an, cdv, ct, osl, rfl, lk, hcd, _, _⟩ := F0.ex
  have hlen' : ∀ vs H Q E, spD K F vs H Q E → vs.length = ps.length := fun vs H Q E ⟨G, as, fp, Qd, c, hF', _⟩ => by
    have := c.len
    simp at this
    rw [this]; exact hlen as Qd hF'
  refine fn_ofG lk hcd S hlen' fun A outer s H vs Q E hr ⟨G, as, fp, Qd, c, hF', kk⟩ => ?_
  obtain ⟨t, h1, h2⟩ := hbody cdv A outer s H E hr
  refine ⟨t, h1.nox, ?_⟩
  have ea := hlen as Qd hF'
  have ev : vs.length = as.length := by have := c.len; simp at this; exact this
  let B : Bs := ⟨vs, as, io, G, H, fp, fun _ => none⟩
  have R0 : Rp K B G H (L2.start N vs) (as.map some ++ List.replicate (N.length - ps.length) none) fp := by
    refine ⟨?_, Stp.refl G H, fun a h => .inl h, fun i m => ?_, fun a o h => (nomatch h)⟩
    · unfold L2.start
      rw [ev, ea]
      exact c.pad _
    · have li : i < as.length := by rw [ea]; exact hil i m
      have lv : i < vs.length := by rw [ev]; exact li
      exact ⟨vs[i], as[i], List.getElem?_eq_getElem lv, by unfold L2.start; rw [List.getElem?_append_left (by simpa using lv)]; simp [lv], by rw [List.getElem?_append_left (by simpa using li)]; simp [li]⟩
  have hio' : ∀ (i : Nat) t, B.as[i]? = some t → i ∈ B.io ∨ ∃ d, t = .dat d := hio as Qd hF'
  have hil' : ∀ i ∈ B.io, i < B.as.length := fun i m => by rw [show B.as.length = ps.length from ea]; exact hil i m
  have key : ∀ G' H' σ ρ fp' r v fr, Rp K B G' H' σ ρ fp' → OT K G' H' v r fr → (∀ a ∈ fr, ¬ In fp' a) → (∀ a ∈ fr, In B.fp0 a ∨ B.H0 a = none) → Qd r (outs io as ρ) → Q v H' := fun G' H' σ ρ fp' r v fr R ot t1 t2 q => by
    have sub : ∀ a, In (fun i => if i ∈ io then fp' i else []) a → In fp' a := fun a ⟨j, m⟩ => by
      by_cases e : j ∈ io
      · simp only [if_pos e] at m; exact ⟨j, m⟩
      · simp [e] at m
    exact kk r (outs io as ρ) v G' H' _ fr (outs_co R c hio' hil') R.stp (fun a h => R.own a (sub a h)) ot (fun a m h => t1 a m (sub a h)) (fun a m => (t2 a m).symm) q
  exact h2 B G H _ _ fp _ _ rfl R0 (hF as Qd hF') ⟨fun G' H' σ ρ fp' R q => key G' H' σ ρ fp' _ _ [] R (.dat .non) (fun _ z => nomatch z) (fun _ z => nomatch z) q, fun G' H' σ ρ fp' r v fr R ot t1 t2 q => key G' H' σ ρ fp' r v fr R ot t1 t2 q, fun _ _ _ _ _ _ z => z, fun _ _ _ _ _ _ z => z⟩
end
/-! ### isinstance with a built-in class, or with two; repr -/
section
variable {X : Cx} {io : List Nat} {e a b : Expr} {pos p : Pos} {fos : FOs} {K : PySem.W.Frag}
theorem c_blt {x : Str} {v : V} {u : Value} (hm : X.mg x = none) (hv : bootBuiltins x = some u) (r : RelV v u) (hg : Gl X x := by rfl) (hn : x ≠ "__name__" := by decide) (hd : (x == ("__debug__" : Str)) = false := by decide) : PDv X io (.Name x pos) (fC (.opq v)) :=
  ⟨_, pe_bltn hg hm hv r hn hd, fun B G H σ ρ fp Qd Q hB R hf k => k _ ρ v G H fp (Nxt.refl R) (.opq v) hf⟩
def dTy : DD → Option String
  | .non => some "NoneType"
  | .bl _ => some "bool"
  | .int _ => some "int"
  | .str _ => some "str"
  | .lst _ => some "list"
  | .tup _ => some "tuple"
  | .at_ _ (.lst _) => some "list"
  | _ => none
theorem Rq.tyX {G : Hp} {x : V} {d : DD} {T : String} (h : Rq K G x d) (e : dTy d = some T) : TyX K G x (.type T) := by
  cases h with
  | non => have := Option.some.inj e; subst this; exact .base .non
  | bl b => have := Option.some.inj e; subst this; exact .base (.bl b)
  | int b => have := Option.some.inj e; subst this; exact .base (.int b)
  | str b => have := Option.some.inj e; subst this; exact .base (.str b)
  | opq => cases e
  | lst h r =>
    have := Option.some.inj e
    subst this
    rcases h with h | ⟨o, h⟩
    · exact .base (.lst h)
    · exact .base (.frz h)
  | tup h r =>
    have := Option.some.inj e
    subst this
    rcases h with (h | ⟨o, h⟩) | ⟨o, its, n, h, hc, _⟩
    · exact .base (.tup h)
    · exact .fTuple h
    · exact .kTuple h hc
  | obj h r => cases e
  | klst => cases e
  | at_ h =>
    cases h with
    | lst h r =>
      have := Option.some.inj e
      subst this
      rcases h with h | ⟨o, h⟩
      · exact .base (.lst h)
      · exact .base (.frz h)
    | _ => cases e
theorem kit_all : ∀ T ∈ ["NoneType", "bool", "int", "str", "list", "tuple"], ∀ c ∈ ["list", "tuple", "str"], kitB T c = some (T == c) := by decide +kernel
theorem kit_of_ty {T c : String} (hT : T ∈ ["NoneType", "bool", "int", "str", "list", "tuple"]) (hc : c ∈ ["list", "tuple", "str"]) : kitB T c = some (T == c) := kit_all T hT c hc
theorem dTy_mem {d : DD} {T : String} (e : dTy d = some T) : T ∈ ["NoneType", "bool", "int", "str", "list", "tuple"] := by
  cases d <;> first | (have := Option.some.inj e; subst this; decide) | cases e | (rename_i d; cases d <;> first | (have := Option.some.inj e; subst this; decide) | cases e)
@[simp] def oIsi : OpN := fun ds P => (∃ d T c, ds = [d, .opq (.ty c)] ∧ dTy d = some T ∧ c ∈ ["list", "tuple", "str"] ∧ P (.bl (T == c))) ∨
  ∃ d T c1 c2, ds = [d, .tup [.opq (.ty c1), .opq (.ty c2)]] ∧ dTy d = some T ∧ c1 ∈ ["list", "tuple", "str"] ∧ c2 ∈ ["list", "tuple", "str"] ∧ P (.bl (T == c1 || T == c2))
def rIsiS (K : PySem.W.Frag) : List V → Hp → VK → Prop := fun xs H Q => ∃ (x : V) (tp : Addr) (cs : List V) (t : Value) (us : List Value) (b : Bool), xs = [x, .ref tp] ∧ SqT K H tp cs ∧ Paired ClsV cs us ∧ TyX K H x t ∧ PySem.W.kitAny K t us = some b ∧ Q (.bl b) H
theorem call_isiS : CallR X (.builtin "isinstance") (rIsiS X.K) := by
  intro pins s σ H xs us Q I r h
  obtain ⟨x, tp, cs, t, ws, b, rfl, hT, k, ty, e, q⟩ := h
  obtain ⟨u1, u2, rfl, r1, r2⟩ := vals2 r
  cases (show u2 = Value.ref tp from r2)
  obtain ⟨P, Z, p, hx⟩ := kit_of I r1 ty
  obtain ⟨its, rv, ⟨o, h1, h2, n, h3⟩, _⟩ := I.tuple hT
  have e3 := ClsV.all k rv
  subst e3
  obtain ⟨oc, od, dt, sl⟩ := o
  simp only at h2 h3
  subst h2 h3
  exact PySem.W.kia_tup Z I.kIn p h1 e hx fun tk => ⟨.bl b, H, I.tok tk, rfl, q⟩
theorem p_isi (hm : X.mg "isinstance" = none) (ha : PDos X io [a, b] fos) (hg : Gl X "isinstance" := by rfl) (he : starEach [a, b] X.env = (false, eval a X.env) :: starEach [b] X.env := by rfl) (hpl : (backTo pos (starEach [b] X.env)).any (·.1) = false := by rfl) : PDv X io (.Call (.Name "isinstance" p) [a, b] [] pos) (fCB oIsi fos) :=
  p_cb (r := fun xs H Q => rIsi X.K xs H Q ∨ rIsiS X.K xs H Q) (call_isi.or call_isiS) (fun H xs ds P Q hx h k => by
    rcases h with ⟨d, T, c, rfl, e, hc, q⟩ | ⟨d, T, c1, c2, rfl, e, h1, h2, q⟩
    · obtain ⟨x, y, rfl, r, s⟩ := hx.two
      have := s.opq_inv
      subst this
      exact .inl ⟨x, .ty c, _, _, _, rfl, .ty c, r.tyX e, kit_ty (kit_of_ty (dTy_mem e) hc), k _ _ q (.bl _)⟩
    · obtain ⟨x, y, rfl, r, s⟩ := hx.two
      obtain ⟨t, zs, rfl, ht, rs⟩ := s.tup_inv
      obtain ⟨z1, z2, rfl, r1, r2⟩ := rs.two
      have e1 := r1.opq_inv
      have e2 := r2.opq_inv
      subst e1 e2
      have kt : PySem.W.kitAny X.K (.type T) [.type c1, .type c2] = some (T == c1 || T == c2) := by
        refine kitAny_cons (kit_ty (kit_of_ty (dTy_mem e) h1)) (fun q1 => ?_) (fun q1 => by rw [q1]; rfl)
        refine kitAny_cons (kit_ty (kit_of_ty (dTy_mem e) h2)) (fun q2 => by rw [q1, q2]; exact kitAny_nil) (fun q2 => by rw [q2, Bool.or_true])
      exact .inr ⟨x, t, _, _, _, _, rfl, ht, .cons (.ty c1) (.cons (.ty c2) .nil), r.tyX e, kt, k _ _ q (.bl _)⟩) hm PyProof.Rows.boot_isinstance ha hg (by decide) (by decide) he hpl
mutual
theorem dp_nodict {H : Hp} : ∀ {x : V} {d : PyData}, Dp K H x d → d.hasDict = false
  | _, _, .non => by simp [PyData.hasDict]
  | _, _, .bl _ => by simp [PyData.hasDict]
  | _, _, .int _ => by simp [PyData.hasDict]
  | _, _, .str _ => by simp [PyData.hasDict]
  | _, _, .lst _ a => by simp only [PyData.hasDict]; exact dp_nodicts a
  | _, _, .tup _ a => by simp only [PyData.hasDict]; exact dp_nodicts a
theorem dp_nodicts {H : Hp} : ∀ {x : List V} {d : List PyData}, DpAll K H x d → PyData.hasDictAll d = false
  | _, _, .nil => by simp [PyData.hasDictAll]
  | _, _, .cons a b => by simp only [PyData.hasDictAll]; rw [dp_nodict a, dp_nodicts b]; rfl
end
/-- repr -/
def rRepr (K : PySem.W.Frag) : List V → Hp → VK → Prop := fun xs H Q => ∃ x d, xs = [x] ∧ Dp K H x d ∧ d.showable = true ∧ d.shown.length ≤ sizeLine ∧ d.depth ≤ 60 ∧ Q (.str d.shown) H
theorem call_reprD {k : Nat} (hr : RoomG k X.A) : CallR X (.builtin "repr") (rRepr X.K) := by
  intro pins s σ H xs us Q I r h
  obtain ⟨x, d, rfl, hd, hs, hz, hdep, q⟩ := h
  obtain ⟨u, rfl, ru⟩ := vals1 r
  obtain ⟨as, rd⟩ := Dp.reads I d x u hd ru
  have hu := hr.r.un
  have hu' : X.A.units + (d.depth + 1) < cLine := by omega
  have nd : d.hasDict = true → sysModules ∉ as := fun hh => absurd hh (by rw [dp_nodict hd]; decide)
  have big : ∀ {a : Addr}, Reads s.heap (.ref a) d as → wpAny (model X.prog X.w) X.A (call (.builtin "repr") [.ref a]) (EP X pins σ Q) X.xe s := fun rd =>
    repr_of_reads' rd hs nd hr.g hu' (fun _ _ e => e) (fun h' u tk hk => ⟨.str d.shown, H, I.kept (t' := tk) hk, ⟨_, rfl⟩, q⟩) hz
  cases hd with
  | non => cases ru; exact PySem.P.repr_of_none ⟨.str _, H, I.tok _, ⟨_, rfl⟩, by simpa [PyData.shown] using q⟩
  | bl b => cases ru; exact PySem.P.repr_of_bool ⟨.str _, H, I.tok _, ⟨_, rfl⟩, by simpa [PyData.shown] using q⟩
  | int i =>
    obtain ⟨t, rfl⟩ := ru
    exact PySem.P.repr_of_int (by simpa [PyData.showable] using hs) ⟨.str _, H, I.tok _, ⟨_, rfl⟩, by simpa [PyData.shown] using q⟩
  | str z =>
    obtain ⟨t, rfl⟩ := ru
    exact PySem.P.repr_of_str ⟨.str _, H, I.tok _, ⟨_, rfl⟩, by simpa [PyData.shown] using q⟩ (by simpa [PyData.shown] using hz)
  | lst h a => cases ru; exact big rd
  | tup h a => cases ru; exact big rd
def shD (d : DD) : Str := d.py.shown
def okR (d : DD) : Prop := d.pure = true ∧ d.py.showable = true ∧ (shD d).length ≤ sizeLine ∧ d.py.depth ≤ 60
@[simp] def oRepr : OpN := fun ds P => ∃ d, ds = [d] ∧ okR d ∧ P (.str (shD d))
theorem p_repr {k : Nat} (hr : RoomG k X.A) (hm : X.mg "repr" = none) (ha : PDos X io [e] fos) (hg : Gl X "repr" := by rfl) (he : starEach [e] X.env = (false, eval e X.env) :: starEach [] X.env := by rfl) : PDv X io (.Call (.Name "repr" p) [e] [] pos) (fCB oRepr fos) :=
  p_cb (call_reprD hr) (fun H xs ds P Q hx h k => by
    obtain ⟨d, rfl, ⟨h1, h2, h3, h4⟩, q⟩ := h
    obtain ⟨x, rfl, r⟩ := hx.one
    exact ⟨x, _, rfl, r.dp h1, h2, h3, h4, k _ _ q (.str _)⟩) hm PyProof.Rows.boot_repr ha hg (by decide) (by decide) he
end
end DL

namespace DL
open PySem PySem.Spec PyProof.Rows L2
section
variable {X : Cx} {io : List Nat} {e : Expr}
/-- the slot's tree is data from now on -/
@[simp] def fSeal (io : List Nat) (i : Nat) : FV := fun ρ Q => ∃ t, ρ[i]? = some (some t) ∧ i ∉ io ∧ Q t.data (ρ.set i (some (.dat t.data)))
theorem n_sl {te : TE} (i : Nat) (h : PE X e te) (ht : te = tVar i) : PDv X io e (fSeal io i) := by
  subst ht
  refine ⟨_, h, fun B G H σ ρ fp Qd Q hB R hf k => ?_⟩
  obtain ⟨t, e1, ni, q⟩ := hf
  obtain ⟨v, e2, ot⟩ := R.co.slot i _ e1
  have hi : i ∉ B.io := by rw [hB]; exact ni
  have inn : ∀ a, In (fun j => if j = i then [] else fp j) a → In fp a := fun a ⟨j, m⟩ => by
    by_cases e1 : j = i
    · simp [e1] at m
    · simp only [if_neg e1] at m
      exact ⟨j, m⟩
  have n1 : Nxt X.K B σ G H fp G H (ρ.set i none) (fun j => if j = i then [] else fp j) := ⟨R.drop i hi, Stp.refl G H, fun a h => .inl (inn a h)⟩
  obtain ⟨n2, rq⟩ := Nxt.sealed R n1 ot (fun a m ⟨j, m'⟩ => by
    by_cases e1 : j = i
    · simp [e1] at m'
    · simp only [if_neg e1] at m'
      exact e1 (R.co.dis j i a m' m)) (fun a m => .inr ⟨i, m⟩)
  have R3 := n2.rp.put (i := i) hi (.dat rq) (fun _ z => nomatch z) (fun _ z => nomatch z)
  have es : σ.set i (some v) = σ := by
    apply List.ext_getElem?
    intro j
    by_cases e : j = i
    · subst e
      rw [e2, List.getElem?_set_self (List.getElem?_eq_some_iff.mp e2).1]
    · rw [List.getElem?_set_ne (Ne.symm e)]
  rw [es, List.set_set] at R3
  refine ⟨v, e2, k _ _ v _ H _ ⟨R3, n2.st, fun a ⟨j, m⟩ => ?_⟩ rq q⟩
  by_cases e : j = i
  · simp [e] at m
  · simp only [if_neg e] at m
    exact n2.inn a ⟨j, by simp only [if_neg e]; exact m⟩
end
def datB : SV → Bool
  | .dat _ => true
  | _ => false
def shpG (io : List Nat) : Nat → List SV → Bool
  | _, [] => true
  | k, t :: r => (decide (k ∈ io) || datB t) && shpG io (k + 1) r
def shp (n : Nat) (io : List Nat) (as : List SV) : Bool := decide (as.length = n) && shpG io 0 as
theorem shpG_of {io : List Nat} : ∀ {as : List SV} {k i : Nat} {t : SV}, shpG io k as = true → as[i]? = some t → k + i ∈ io ∨ ∃ d, t = .dat d
  | [], _, _, _, _, h => by simp at h
  | a :: r, k, 0, t, h, e => by
    simp at e; subst e
    simp [shpG] at h
    rcases h.1 with z | z
    · exact .inl (by simpa using z)
    · cases a with
      | dat d => exact .inr ⟨d, rfl⟩
      | own _ => cases z
      | ob _ _ => cases z
  | a :: r, k, i + 1, t, h, e => by
    simp [shpG] at h
    have := shpG_of (i := i) h.2 (by simpa using e)
    have ee : k + 1 + i = k + (i + 1) := by omega
    rwa [ee] at this
section
variable {P : Program} {w : World} {K : PySem.W.Frag} {mg : Str → Option Value} {base : Heap} {f : Addr} {fd : FuncData} {x qual : Str} {params : Arguments} {body : List Stmt} {scope : Scope} {N ps : List Str} {k : Nat}
theorem okF {F : Ctr} (io : List Nat) {fs : FS} (F0 : FunD K x qual params body scope [] [] f fd) (S : FnScope N ps scope)
    (hbody : ∀ (cdv : Value) (A : Around) (outer : List Env) (s : Shared) (H : Hp) (E : XK), RoomG k (A.deeper (envOfC qual scope s.heap.objs.size f cdv)) → PDss (cxOf CX0 P w K mg base N qual scope f cdv A outer s H E).nox io body fs)
    (hsh : ∀ as Q, F as Q → shp ps.length io as = true) (hil : (io.all fun i => decide (i < ps.length)) = true)
    (hF : ∀ as Q, F as Q → fs ⟨fun ρ => Q (.dat .non) (outs io as ρ), fun r ρ => Q r (outs io as ρ), fun _ => False, fun _ => False⟩ (as.map some ++ List.replicate (N.length - ps.length) none)) :
    FnG P w K mg base CX0 (k + 1) f fd ps (spD K F) := by
  have h1 : ∀ as Q, F as Q → as.length = ps.length ∧ shpG io 0 as = true := fun as Q h => by
    have := hsh as Q h
    unfold shp at this
    simpa using this
  exact okG F0 S hbody (fun as Q h => (h1 as Q h).1) (fun as Q h i t e => by simpa using shpG_of (h1 as Q h).2 e) (fun i m => of_decide_eq_true (List.all_eq_true.mp hil i m)) hF
/-- with the module's name -/
theorem hsF {F : Ctr} (G : FnG P w K mg base CX0 k f fd ps (spD K F)) (hm : mg x = some (.ref f)) (F0 : FunD K x qual params body scope [] [] f fd)
    (hb : ∀ (kV doc pm : Value) (an : Option Addr) (cdv ct : Value) (us : List Value), us.length = ps.length → bindArgs (PySem.W.fnOf x qual params body scope .none kV doc pm an cdv ct) ⟨us, []⟩ = pure (ps.zip us)) : Hs P w K mg base x ps k F :=
  ⟨f, fd, hm, F0.kp, F0.bindsN hb, G⟩
end
end DL

namespace DL
open PySem PySem.Spec PyProof.Rows L2
@[simp] theorem sizeLine_v : sizeLine = 2 ^ 24 := rfl
@[simp] theorem and_assoc_s {p q r : Prop} : (p ∧ q) ∧ r ↔ p ∧ q ∧ r := and_assoc
@[simp] theorem outs_u (io : List Nat) (as : List SV) (ρ : Rho) : outs io as ρ = if io = [] then as else outsG io ρ 0 as := rfl
@[simp] theorem outsG_nil (io : List Nat) (ρ : Rho) (k : Nat) : outsG io ρ k [] = [] := rfl
@[simp] theorem outsG_cons (io : List Nat) (ρ : Rho) (k : Nat) (t : SV) (r : List SV) : outsG io ρ k (t :: r) = (if k ∈ io then (ρ[k]?.join).getD t else t) :: outsG io ρ (k + 1) r := rfl
section
variable {a b : Int} {x y : Str} {p q : Bool} {l m : List DD}
theorem ieq {a b : Int} : (a == b) = decide (a = b) := by rw [Bool.eq_iff_iff]; simp
@[simp] theorem okD_int : okD (.int a) = true := by simp [okD, DD.pure, DD.py, SeqAt.shaped, PyData.canLay0, PyData.depth]
@[simp] theorem okD_bl : okD (.bl p) = true := by simp [okD, DD.pure, DD.py, SeqAt.shaped, PyData.canLay0, PyData.depth]
@[simp] theorem okD_non : okD .non = true := by simp [okD, DD.pure, DD.py, SeqAt.shaped, PyData.canLay0, PyData.depth]
@[simp] theorem eqD_int : eqD (.int a) (.int b) = decide (a = b) := by simp [eqD, DD.py, PyData.eqv, ieq]
theorem okD_ints {l : List Int} : DD.pures (l.map .int) = true ∧ PyData.canLayAll0 (DD.pys (l.map .int)) = true ∧ PyData.depthAll (DD.pys (l.map .int)) = 0 := by
  induction l with
  | nil => simp [DD.pures, DD.pys, PyData.canLayAll0, PyData.depthAll]
  | cons x l ih => simp [DD.pures, DD.pys, PyData.canLayAll0, PyData.depthAll, DD.pure, DD.py, PyData.canLay0, PyData.depth, ih]
@[simp] theorem okD_lint {l : List Int} : okD (.lst (l.map .int)) = true := by simp [okD, DD.pure, DD.py, SeqAt.shaped, PyData.canLay0, PyData.depth, okD_ints]
@[simp] theorem okD_tint {l : List Int} : okD (.tup (l.map .int)) = true := by simp [okD, DD.pure, DD.py, SeqAt.shaped, PyData.canLay0, PyData.depth, okD_ints]
@[simp] theorem okD_nil : okD (.lst []) = true := okD_lint (l := [])
@[simp] theorem okD_two : okD (.tup [.int a, .int b]) = true := okD_tint (l := [a, b])
theorem eqD_ints : ∀ {l m : List Int}, PyData.eqvAll (DD.pys (l.map .int)) (DD.pys (m.map .int)) = decide (l = m)
  | [], [] => by simp [DD.pys, PyData.eqvAll]
  | [], _ :: _ => by simp [DD.pys, PyData.eqvAll]
  | _ :: _, [] => by simp [DD.pys, PyData.eqvAll]
  | x :: l, y :: m => by
    have ih := eqD_ints (l := l) (m := m)
    simp only [List.map_cons, DD.pys, PyData.eqvAll, DD.py, PyData.eqv, ih, List.cons.injEq, ieq, Bool.decide_and]
@[simp] theorem eqD_lint {l m : List Int} : eqD (.lst (l.map .int)) (.lst (m.map .int)) = decide (l = m) := by simp [eqD, DD.py, PyData.eqv, eqD_ints]
@[simp] theorem eqD_lnil {l : List Int} : eqD (.lst (l.map .int)) (.lst []) = decide (l = []) := eqD_lint (m := [])
@[simp] theorem eqD_tint {l m : List Int} : eqD (.tup (l.map .int)) (.tup (m.map .int)) = decide (l = m) := by simp [eqD, DD.py, PyData.eqv, eqD_ints]
end
end DL

namespace DL
open PySem PySem.Spec PyProof.Rows L2
/-! indices -/
section
variable {α β : Type} {l : List α} {n k : Nat}
theorem ixN_nat (h : k < n) : ixN n (k : Int) = some k := by
  unfold ixN
  first | (simp [h]; done) | (simp; omega) | skip
theorem atI_map (g : α → β) (i : Int) : atI (l.map g) i = (atI l i).map g := by
  unfold atI
  rw [List.length_map]
  cases ixN l.length i with
  | none => rfl
  | some j => simp
end
section
variable {α : Type} {ds : List DD} {ts : List SV} {i k : Int} {x : Str} {P : DD → Prop} {Q : SV → Prop} {R : List DD → Prop} {lo hi : Option Int} {C : Addr}
@[simp] theorem ixT_lst : ixT (.dat (.lst ds)) i P ↔ ∃ d, atI ds i = some d ∧ P d := Iff.rfl
@[simp] theorem ixT_klst : ixT (.dat (.klst ds)) i P ↔ ∃ d, atI ds i = some d ∧ P d := Iff.rfl
@[simp] theorem ixT_tup : ixT (.dat (.tup ds)) i P ↔ ∃ d, atI ds i = some d ∧ P d := Iff.rfl
@[simp] theorem ixT_str : ixT (.dat (.str x)) i P ↔ ∃ c, x.length ≤ sizeLine ∧ atI x.cps.toList i = some c ∧ P (.str ⟨#[c]⟩) := Iff.rfl
@[simp] theorem ixT_own : ixT (.own ts) i P ↔ ∃ d, atI ts i = some (.dat d) ∧ P d := Iff.rfl
@[simp] theorem slT_lst : slT (.dat (.lst ds)) lo hi Q ↔ Q (.own ((cutD ds lo hi).map .dat)) := Iff.rfl
@[simp] theorem slT_own : slT (.own ts) lo hi Q ↔ ∃ ds : List DD, cutD ts lo hi = ds.map SV.dat ∧ Q (.own (ds.map SV.dat)) := Iff.rfl
@[simp] theorem slT_str : slT (.dat (.str x)) lo hi Q ↔ x.length ≤ sizeLine ∧ Q (.dat (.str (cutS x lo hi))) := Iff.rfl
@[simp] theorem lstT_lst : lstT (.dat (.lst ds)) R ↔ R ds := Iff.rfl
@[simp] theorem lstT_tup : lstT (.dat (.tup ds)) R ↔ R ds := Iff.rfl
@[simp] theorem lstT_own : lstT (.own ts) R ↔ ∃ ds : List DD, ts = ds.map SV.dat ∧ R ds := Iff.rfl
@[simp] theorem addT_int {j : Int} : addT (.dat (.int i)) (.dat (.int j)) Q ↔ Q (.dat (.int (i + j))) := Iff.rfl
@[simp] theorem addT_str {y : Str} : addT (.dat (.str x)) (.dat (.str y)) Q ↔ x.length + y.length ≤ sizeLine ∧ Q (.dat (.str (x ++ y))) := Iff.rfl
@[simp] theorem addT_own {t : SV} : addT (.own ts) t Q ↔ ∃ l m, itemsT (.own ts) = some l ∧ itemsT t = some m ∧ l.length + m.length ≤ sizeLine ∧ Q (.own (l ++ m)) := by cases t <;> exact Iff.rfl
@[simp] theorem addT_lst {t : SV} : addT (.dat (.lst ds)) t Q ↔ ∃ l m, itemsT (.dat (.lst ds)) = some l ∧ itemsT t = some m ∧ l.length + m.length ≤ sizeLine ∧ Q (.own (l ++ m)) := by
  cases t with
  | dat d => cases d <;> exact Iff.rfl
  | _ => exact Iff.rfl
@[simp] theorem data_own : (SV.own ts).data = .lst (ts.map SV.data) := by simp [SV.data, SV.datas_eq]
@[simp] theorem map_dat_data : (ds.map SV.dat).map SV.data = ds := by
  induction ds with
  | nil => rfl
  | cons d r ih => simp [ih]
@[simp] theorem comp_dat : SV.data ∘ SV.dat = id := by funext d; simp
@[simp] theorem atI_cons0 {a : α} {l : List α} : atI (a :: l) 0 = some a := by
  have := ixN_nat (n := (a :: l).length) (k := 0) (by simp)
  unfold atI
  rw [show (0 : Int) = ((0 : Nat) : Int) from rfl, this]
  rfl
@[simp] theorem atI_cons1 {a b : α} {l : List α} : atI (a :: b :: l) 1 = some b := by
  have := ixN_nat (n := (a :: b :: l).length) (k := 1) (by simp)
  unfold atI
  rw [show (1 : Int) = ((1 : Nat) : Int) from rfl, this]
  rfl
@[simp] theorem atI_cons2 {a b c : α} {l : List α} : atI (a :: b :: c :: l) 2 = some c := by
  have := ixN_nat (n := (a :: b :: c :: l).length) (k := 2) (by simp)
  unfold atI
  rw [show (2 : Int) = ((2 : Nat) : Int) from rfl, this]
  rfl
theorem atI_nat {l : List α} {n : Nat} (h : n < l.length) : atI l (n : Int) = some l[n] := by
  unfold atI
  rw [ixN_nat h]
  simp [h]
theorem atI_end {l : List α} : atI l (-1) = l.getLast? := by
  unfold atI ixN
  cases l with
  | nil => simp
  | cons a l =>
    have : (1 : Int) ≤ l.length + 1 := by omega
    have e : (-1 + ((l.length : Int) + 1)).toNat = l.length := by omega
    simp [List.getLast?_eq_getElem?, this, e]
theorem atI_mapI {l : List Int} {i : Int} : atI (l.map DD.int) i = (atI l i).map DD.int := atI_map _ _
@[simp] theorem dats_nil {l : List DD} : ([] = l.map SV.dat) ↔ l = [] := by cases l <;> simp
@[simp] theorem dats_cons {d : SV} {t : List SV} {l : List DD} : (d :: t = l.map SV.dat) ↔ ∃ e r, l = e :: r ∧ d = .dat e ∧ t = r.map SV.dat := by
  constructor
  · intro h
    cases l with
    | nil => cases h
    | cons e r => exact ⟨e, r, rfl, by simpa using h⟩
  · rintro ⟨e, r, rfl, rfl, rfl⟩; rfl
@[simp] theorem dats_inj {l m : List DD} : (l.map SV.dat = m.map SV.dat) ↔ l = m := by
  constructor
  · intro h
    have := congrArg (List.map SV.data) h
    rwa [map_dat_data, map_dat_data] at this
  · rintro rfl; rfl
@[simp] theorem ints_dats {l : List Int} {m : List DD} : (l.map (fun i => SV.dat (.int i)) = m.map SV.dat) ↔ m = l.map .int := by
  have : l.map (fun i => SV.dat (.int i)) = (l.map DD.int).map SV.dat := by simp
  rw [this, dats_inj]
  exact eq_comm
theorem cutD_map {β : Type} (g : α → β) {l : List α} : cutD (l.map g) lo hi = (cutD l lo hi).map g := by
  unfold cutD
  simp
theorem cut_to {l : List α} {n : Nat} (h : n ≤ l.length) : cutD l none (some (n : Int)) = l.take n := by
  unfold cutD
  rw [HT.sIx_none, HT.sIx_nat, Nat.min_eq_left h]
  simp
@[simp] theorem cut_zero {l : List α} : DL.cutD l none (some 0) = [] := cut_to (n := 0) (Nat.zero_le _)
theorem cut_from {l : List α} {n : Nat} : cutD l (some (n : Int)) none = l.drop n := by
  unfold cutD
  rw [HT.sIx_none, HT.sIx_nat]
  by_cases h : n ≤ l.length
  · rw [Nat.min_eq_left h]
    apply List.take_of_length_le
    simp
  · rw [Nat.min_eq_right (by omega)]
    simp
    omega
end
/-! loops, told apart from what is walked -/
def forB (fg : FG) (f : FS) (ds : List DD) (D : DEnds) (ρ1 : Rho) : Prop := ∃ W : Nat → Rho → Prop, W 0 ρ1 ∧ (∀ (i : Nat) d ρ, ds[i]? = some d → W i ρ → fg d ρ fun ρ2 => f { D with nx := W (i + 1), ct := W (i + 1), bk := D.nx } ρ2) ∧ ∀ ρ, W ds.length ρ → D.nx ρ
@[simp] theorem fFor_app {fi : FI} {fg : FG} {f : FS} {D : DEnds} {ρ : Rho} : fFor fi fg f D ρ = fi ρ fun ds ρ1 => forB fg f ds D ρ1 := rfl
def lcB (fg : FG) (ft : FT) (fe : FE) (vs : List Nat) (ds : List DD) (Q : SV → Rho → Prop) (ρ1 : Rho) : Prop := ∃ W : Nat → List SV → Rho → Prop, W 0 [] ρ1 ∧
  (∀ (i : Nat) d acc ρ, ds[i]? = some d → W i acc ρ → plainB ρ vs = true ∧ fg d (wipeR ρ vs) fun ρ2 => ft ρ2 fun b ρ3 => if b = true then fe ρ3 fun r ρ4 => acc.length < sizeLine ∧ W (i + 1) (acc ++ [r]) (unwipe ρ4 ρ vs) else W (i + 1) acc (unwipe ρ3 ρ vs)) ∧
  ∀ acc ρ, W ds.length acc ρ → Q (.own acc) ρ
@[simp] theorem fLc_app {io : List Nat} {fi : FI} {fg : FG} {ft : FT} {fe : FE} {vs : List Nat} {ρ : Rho} {Q : SV → Rho → Prop} : fLc io fi fg ft fe vs ρ Q = fi ρ fun ds ρ1 => (∀ v ∈ vs, v ∉ io) ∧ lcB fg ft fe vs ds Q ρ1 := rfl
section
variable {fg : FG} {ft : FT} {fe : FE} {vs : List Nat} {ds : List DD} {Q : SV → Rho → Prop} {ρ1 : Rho} {f : FS} {D : DEnds}
theorem for_inv (W : Nat → Rho → Prop) (h0 : W 0 ρ1) (hs : ∀ (i : Nat) d ρ, ds[i]? = some d → W i ρ → fg d ρ fun ρ2 => f { D with nx := W (i + 1), ct := W (i + 1), bk := D.nx } ρ2) (hd : ∀ ρ, W ds.length ρ → D.nx ρ) : forB fg f ds D ρ1 := ⟨W, h0, hs, hd⟩
theorem lc_inv (W : Nat → List SV → Rho → Prop) (h0 : W 0 [] ρ1) (hs : ∀ (i : Nat) d acc ρ, ds[i]? = some d → W i acc ρ → plainB ρ vs = true ∧ fg d (wipeR ρ vs) fun ρ2 => ft ρ2 fun b ρ3 => if b = true then fe ρ3 fun r ρ4 => acc.length < sizeLine ∧ W (i + 1) (acc ++ [r]) (unwipe ρ4 ρ vs) else W (i + 1) acc (unwipe ρ3 ρ vs))
    (hd : ∀ acc ρ, W ds.length acc ρ → Q (.own acc) ρ) : lcB fg ft fe vs ds Q ρ1 := ⟨W, h0, hs, hd⟩
/-- each item by itself, the state untouched -/
theorem lc_map (g : DD → SV) (hl : ds.length ≤ sizeLine) (hp : plainB ρ1 vs = true) (hs : ∀ d ∈ ds, ∀ R : SV → Rho → Prop, R (g d) ρ1 → fg d (wipeR ρ1 vs) fun ρ2 => fe ρ2 fun r ρ4 => R r (unwipe ρ4 ρ1 vs))
    (hd : Q (.own (ds.map g)) ρ1) : lcB fg fYes fe vs ds Q ρ1 := by
  refine lc_inv (fun i acc ρ => ρ = ρ1 ∧ acc = (ds.take i).map g) ⟨rfl, rfl⟩ ?_ ?_
  · rintro i d acc ρ hi ⟨rfl, rfl⟩
    refine ⟨hp, ?_⟩
    have hlt := (List.getElem?_eq_some_iff.mp hi).1
    have := hs d (List.mem_of_getElem? hi) (fun r ρ' => ((ds.take i).map g).length < sizeLine ∧ ρ' = ρ ∧ (ds.take i).map g ++ [r] = (ds.take (i + 1)).map g) ⟨by rw [List.length_map, List.length_take]; exact Nat.lt_of_le_of_lt (Nat.min_le_left _ _) (Nat.lt_of_lt_of_le hlt hl), rfl, by rw [List.take_add_one, hi]; simp⟩
    simpa [fYes] using this
  · rintro acc ρ ⟨rfl, rfl⟩
    rw [List.take_length]
    exact hd
end
/-! sizes -/
def Sm (k : Nat) (n : Int) : Prop := n.natAbs < 2 ^ k
theorem Sm.mono {k l : Nat} {n : Int} (h : Sm k n) (le : k ≤ l) : Sm l n := Nat.lt_of_lt_of_le h (Nat.pow_le_pow_right (by decide) le)
theorem Sm.neg {k : Nat} {n : Int} (h : Sm k n) : Sm k (-n) := by unfold Sm at *; rwa [Int.natAbs_neg]
theorem Sm.mul {k l : Nat} {m n : Int} (h : Sm k m) (h' : Sm l n) : Sm (k + l) (m * n) := by
  unfold Sm at *
  rw [Int.natAbs_mul, Nat.pow_add]
  exact Nat.mul_lt_mul'' h h'
theorem Sm.add {k l : Nat} {m n : Int} (h : Sm k m) (h' : Sm l n) : Sm (max k l + 1) (m + n) := by
  have a := h.mono (Nat.le_max_left k l)
  have b := h'.mono (Nat.le_max_right k l)
  unfold Sm at *
  rw [Nat.pow_succ]
  omega
theorem Sm.sub {k l : Nat} {m n : Int} (h : Sm k m) (h' : Sm l n) : Sm (max k l + 1) (m - n) := by
  rw [Int.sub_eq_add_neg]; exact h.add h'.neg
theorem Sm.log {k : Nat} {n : Int} (h : Sm k n) (h0 : 0 < k) : n.natAbs.log2 < k := by
  by_cases z : n.natAbs = 0
  · rw [z]; simpa using h0
  · exact (Nat.log2_lt z).mpr h
theorem Sm.le {k : Nat} {m n : Int} (h : Sm k m) (le : n.natAbs ≤ m.natAbs) : Sm k n := Nat.lt_of_le_of_lt le h
theorem Sm.pylong {k : Nat} {n : Int} (i : Int) (h : Sm k n) (h0 : k ≤ 9000 := by decide) : Builtin.divisionGoesByPylong i n = false := by
  have := (h.mono h0).log (by decide)
  exact PyProof.noPylong_of_log2 this
theorem Sm.bits {k : Nat} {n : Int} (h : Sm k n) : Builtin.Int.intBits n ≤ k := by
  unfold Builtin.Int.intBits
  by_cases z : n = 0
  · simp [z]
  · have : n.natAbs ≠ 0 := by omega
    have := (Nat.log2_lt this).mpr h
    simp [z]
    omega
theorem Sm.of_bits {k : Nat} {n : Int} (h : Builtin.Int.intBits n ≤ k) : Sm k n := by
  unfold Builtin.Int.intBits at h
  unfold Sm
  by_cases z : n = 0
  · simp [z]; exact Nat.pow_pos (by decide)
  · have z' : n.natAbs ≠ 0 := by omega
    simp [z] at h
    exact (Nat.log2_lt z').mp (by omega)
theorem Sm.ok {k l : Nat} {m n : Int} (h : Sm k m) (h' : Sm l n) (e : k + l ≤ 134217728 := by decide) : IntMulOk m n := PyProof.Rows.mulOk_of_bits h.bits h'.bits e
/-! fractions -/
def rT (q : Rat) : DD := .tup [.int q.num, .int (q.den : Int)]
theorem gcd_pos {a b : Int} (h : b ≠ 0) : 0 < (Int.gcd a b : Int) := by
  have : Int.gcd a b ≠ 0 := fun z => h (Int.gcd_eq_zero_iff.mp z).2
  omega
theorem rat_num {a b : Int} (h : b ≠ 0) : a.fdiv (if b < 0 then -(Int.gcd a b : Int) else Int.gcd a b) = (Rat.divInt a b).num := by
  rw [Rat.num_divInt, Int.gcd_comm b a]
  have g := gcd_pos (a := a) h
  obtain ⟨c, hc⟩ := Int.gcd_dvd_left a b
  generalize (Int.gcd a b : Int) = d at *
  subst hc
  split
  · rename_i l
    rw [Int.sign_eq_neg_one_of_neg l]
    have e1 : d * c = (-c) * (-d) := by grind
    have e2 : -1 * (d * c) = (-c) * d := by grind
    rw [e2, Int.mul_ediv_cancel _ (by omega), e1, Int.mul_fdiv_cancel _ (by omega)]
  · rename_i l
    rw [Int.sign_eq_one_of_pos (by omega)]
    rw [Int.one_mul, Int.mul_comm d c, Int.mul_ediv_cancel _ (by omega), Int.mul_fdiv_cancel _ (by omega)]
theorem rat_den {a b : Int} (h : b ≠ 0) : b.fdiv (if b < 0 then -(Int.gcd a b : Int) else Int.gcd a b) = ((Rat.divInt a b).den : Int) := by
  have g := gcd_pos (a := a) h
  rw [Rat.den_divInt, if_neg h, Int.gcd_comm b a]
  obtain ⟨c, hc⟩ := Int.gcd_dvd_right a b
  have e : ((b.natAbs / Int.gcd a b : Nat) : Int) = (b.natAbs : Int) / (Int.gcd a b : Int) := by simp
  rw [e]
  generalize (Int.gcd a b : Int) = d at *
  subst hc
  split
  · rename_i l
    have e1 : d * c = (-c) * (-d) := by grind
    have e2 : ((d * c).natAbs : Int) = (-c) * d := by
      have : d * c < 0 := l
      have e3 : (-c) * d = -(d * c) := by grind
      rw [e3]; omega
    rw [e2, Int.mul_ediv_cancel _ (by omega), e1, Int.mul_fdiv_cancel _ (by omega)]
  · rename_i l
    have e2 : ((d * c).natAbs : Int) = c * d := by rw [Int.mul_comm c d]; omega
    rw [e2, Int.mul_ediv_cancel _ (by omega), Int.mul_comm d c, Int.mul_fdiv_cancel _ (by omega)]
theorem gcd_small {k : Nat} {a b : Int} (h : b ≠ 0) (hs : Sm k b) : Sm k (Int.gcd a b : Int) := by
  unfold Sm at *
  simp only [Int.natAbs_natCast]
  exact Nat.lt_of_le_of_lt (Nat.le_of_dvd (by omega) (Nat.gcd_dvd_right a.natAbs b.natAbs)) hs
theorem rat_cop (q : Rat) : Int.gcd q.num q.den = 1 := q.reduced
/-- sizes of a fraction -/
structure Qb (k : Nat) (q : Rat) : Prop where
  n : Sm k q.num
  d : Sm k (q.den : Int)
theorem Qb.mono {k l : Nat} {q : Rat} (h : Qb k q) (le : k ≤ l) : Qb l q := ⟨h.n.mono le, h.d.mono le⟩
theorem Qb.of {k : Nat} {a b : Int} (ha : Sm k a) (hb : Sm k b) (h0 : b ≠ 0) : Qb k (Rat.divInt a b) := by
  have g := gcd_pos (a := a) h0
  refine ⟨ha.le ?_, hb.le ?_⟩
  · rw [Rat.num_divInt]
    refine Nat.le_trans (Int.natAbs_ediv_le_natAbs _ _) ?_
    rw [Int.natAbs_mul]
    have : b.sign.natAbs ≤ 1 := by rw [Int.natAbs_sign]; split <;> omega
    calc b.sign.natAbs * a.natAbs ≤ 1 * a.natAbs := Nat.mul_le_mul_right _ this
      _ = a.natAbs := Nat.one_mul _
  · rw [Rat.den_divInt, if_neg h0]
    simp only [Int.natAbs_natCast]
    exact Nat.div_le_self _ _
theorem rden (x : Rat) : (x.den : Int) ≠ 0 := by have := x.den_pos; omega
theorem rat_add (x y : Rat) : Rat.divInt (x.num * y.den + y.num * x.den) (x.den * y.den) = x + y := by
  have h := Rat.divInt_add_divInt x.num y.num (rden x) (rden y)
  rw [Rat.num_divInt_den, Rat.num_divInt_den] at h
  exact h.symm
theorem rat_mul (x y : Rat) : Rat.divInt (x.num * y.num) (x.den * y.den) = x * y := by
  have h := Rat.divInt_mul_divInt x.num y.num (d₁ := x.den) (d₂ := y.den)
  rw [Rat.num_divInt_den, Rat.num_divInt_den] at h
  exact h.symm
theorem Qb.mul {k l : Nat} {x y : Rat} (h : Qb k x) (h' : Qb l y) : Qb (k + l) (x * y) := by
  rw [← rat_mul]
  exact Qb.of (h.n.mul h'.n) (h.d.mul h'.d) (Int.mul_ne_zero (rden x) (rden y))
theorem Qb.add {k l : Nat} {x y : Rat} (h : Qb k x) (h' : Qb l y) : Qb (k + l + 1) (x + y) := by
  rw [← rat_add]
  refine Qb.of ?_ ((h.d.mul h'.d).mono (by omega)) (Int.mul_ne_zero (rden x) (rden y))
  exact ((h.n.mul h'.d).add (h'.n.mul h.d)).mono (by omega)
theorem Qb.int {k : Nat} {i : Int} (h : Sm k i) (hk : 1 ≤ k := by decide) : Qb k (i : Rat) := by
  refine ⟨by simpa using h, ?_⟩
  have : Sm 1 (1 : Int) := by unfold Sm; decide
  simpa using this.mono hk
/-! polynomials -/
def evalR : List Int → Rat → Rat
  | [], _ => 0
  | c :: l, x => (c : Rat) + x * evalR l x
def dI (l : List Int) : DD := .lst (l.map .int)
def oI (l : List Int) : SV := .own (l.map fun i => .dat (.int i))
theorem oI_data (l : List Int) : (oI l).data = dI l := by simp [oI, dI, SV.data, SV.datas_eq]
/-- zeros off the end -/
def trim : List Int → List Int
  | [] => []
  | c :: l => match trim l with
    | [] => if c = 0 then [] else [c]
    | t => c :: t
def addP : List Int → List Int → List Int
  | [], m => m
  | l, [] => l
  | a :: l, b :: m => (a + b) :: addP l m
theorem repT_int {c k : Int} : repT [DD.int c] k = (List.replicate k.toNat c).map DD.int := by simp [repT]
theorem zipD_ints {l m : List Int} : zipD (l.map .int) (m.map .int) = (l.zip m).map fun p => DD.tup [.int p.1, .int p.2] := by
  unfold zipD
  rw [List.zip_map, List.map_map]
  rfl
theorem maxI {a b : Nat} : (if a < b then (b : Int) else (a : Int)) = ((max a b : Nat) : Int) := by split <;> omega
theorem pad_int {l : List Int} {k : Nat} {c : Int} : l.map DD.int ++ List.replicate k (DD.int c) = (l ++ List.replicate k c).map DD.int := by simp
theorem zip_zl : ∀ m : List Int, List.zipWith (· + ·) (List.replicate m.length 0) m = m
  | [] => rfl
  | b :: m => by
    have ih := zip_zl m
    simp only [List.length_cons, List.replicate_succ, List.zipWith_cons_cons, Int.zero_add]
    rw [ih]
theorem zip_zr : ∀ m : List Int, List.zipWith (· + ·) m (List.replicate m.length 0) = m
  | [] => rfl
  | b :: m => by
    have ih := zip_zr m
    simp only [List.length_cons, List.replicate_succ, List.zipWith_cons_cons, Int.add_zero]
    rw [ih]
theorem zip_pad : ∀ (l m : List Int), List.zipWith (· + ·) (l ++ List.replicate (max l.length m.length - l.length) 0) (m ++ List.replicate (max l.length m.length - m.length) 0) = addP l m
  | [], [] => by simp [addP]
  | [], b :: m => by
    have := zip_zl (b :: m)
    simpa [addP] using this
  | a :: l, [] => by
    have := zip_zr (a :: l)
    simpa [addP] using this
  | a :: l, b :: m => by
    have ih := zip_pad l m
    have e1 : max (a :: l).length (b :: m).length - (a :: l).length = max l.length m.length - l.length := by simp
    have e2 : max (a :: l).length (b :: m).length - (b :: m).length = max l.length m.length - m.length := by simp
    rw [e1, e2, List.cons_append, List.cons_append, List.zipWith_cons_cons, ih, addP]
theorem addP_len : ∀ (l m : List Int), (addP l m).length = max l.length m.length
  | [], m => by simp [addP]
  | a :: l, [] => by simp [addP]
  | a :: l, b :: m => by simp [addP, addP_len l m]
theorem trim_snoc0 : ∀ l : List Int, trim (l ++ [0]) = trim l
  | [] => rfl
  | c :: l => by simp only [List.cons_append, trim, trim_snoc0 l]
theorem trim_eq : ∀ l : List Int, l.getLast? ≠ some 0 → trim l = l
  | [], _ => rfl
  | [c], h => by
    simp at h
    simp [trim, h]
  | c :: b :: l, h => by
    have ih := trim_eq (b :: l) (by simpa [List.getLast?_cons_cons] using h)
    rw [trim, ih]
theorem trim_last : ∀ l : List Int, (trim l).getLast? ≠ some 0
  | [] => by simp [trim]
  | c :: l => by
    have ih := trim_last l
    rw [trim]
    split
    · split <;> simp [*]
    · rename_i t h
      cases e : trim l with
      | nil => exact absurd e h
      | cons x t => rw [e] at ih; rw [List.getLast?_cons_cons]; exact ih
end DL

namespace DL
open PySem PySem.Spec PyProof.Rows L2
/-! ### calls with names -/
@[simp] def gP {α : Type} (n m : Nat) (ix : List Nat) (us ws : List α) : List α := if us.length = n ∧ ws.length = m then ix.filterMap (fun i => (us ++ ws)[i]?) else []
def DAd (K : PySem.W.Frag) (io : List Nat) (ta : TA) (fd : FDs) : Prop := ∀ (B : Bs) G H σ ρ fp (Qd : List DD → Rho → Prop) (Q : List V → Hp → Prop), B.io = io → Rp K B G H σ ρ fp → fd ρ Qd →
  (∀ ds ρ' vs G' H' fp', Nxt K B σ G H fp G' H' ρ' fp' → RqA K G' vs ds → Qd ds ρ' → Q vs H') → ta σ H Q
def PDpa (X : Cx) (io : List Nat) (es : List Expr) (fd : FDs) : Prop := ∃ ta, PA X es ta ∧ DAd X.K io ta fd
def PDkw (X : Cx) (io : List Nat) (kws : List Keyword) (fd : FDs) : Prop := ∃ ta, PK X kws ta ∧ DAd X.K io ta fd
@[simp] def kNil : FDs := fun ρ Q => Q [] ρ
@[simp] def kCons (fv : FV) (fd : FDs) : FDs := fun ρ Q => fv ρ fun d ρ1 => fd ρ1 fun ds ρ2 => Q (d :: ds) ρ2
section
variable {X : Cx} {io : List Nat} {e : Expr} {es : List Expr} {fd : FDs} {fv : FV} {kws : List Keyword} {nm : Option Str} {kpos : Pos}
theorem da_nil {K : PySem.W.Frag} : DAd K io tNil kNil := fun B G H σ ρ fp Qd Q hB R hf k => k [] ρ [] G H fp (Nxt.refl R) .nil hf
theorem da_cons {K : PySem.W.Frag} {te : TE} {ta : TA} (a2 : DV K io te fv) (b2 : DAd K io ta fd) : DAd K io (tCons te ta) (kCons fv fd) := fun B G H σ ρ fp Qd Q hB R hf k => by
  refine a2 B G H σ ρ fp _ _ hB R hf fun d ρ1 v1 G1 H1 fp1 n1 r1 hf => ?_
  refine b2 B G1 H1 σ ρ1 fp1 _ _ hB n1.rp hf fun ds ρ2 vs G2 H2 fp2 n2 rs q => ?_
  exact k _ ρ2 _ G2 H2 fp2 (n1.trans n2) (.cons (r1.mono n2.st.ex) rs) q
theorem p_nil : PDpa X io [] kNil := ⟨_, pa_nil, da_nil⟩
theorem p_val (ha : PDv X io e fv) (hr : PDpa X io es fd) (hs : starEach (e :: es) X.env = (false, eval e X.env) :: starEach es X.env := by rfl) : PDpa X io (e :: es) (kCons fv fd) := by
  obtain ⟨_, a1, a2⟩ := ha
  obtain ⟨_, b1, b2⟩ := hr
  exact ⟨_, pa_cons a1 b1 hs, da_cons a2 b2⟩
theorem k_nil : PDkw X io [] kNil := ⟨_, pk_nil, da_nil⟩
theorem k_val (ha : PDv X io e fv) (hr : PDkw X io kws fd) : PDkw X io (⟨nm, e, kpos⟩ :: kws) (kCons fv fd) := by
  obtain ⟨_, a1, a2⟩ := ha
  obtain ⟨_, b1, b2⟩ := hr
  exact ⟨_, pk_cons a1 b1, da_cons a2 b2⟩
theorem avr_dat {K : PySem.W.Frag} {G H : Hp} {σ : L2.St} : ∀ {vs : List V} {ds : List DD}, RqA K G vs ds → AVR K G H σ vs (ds.map fun d => AV.val (.dat d)) []
  | _, _, .nil => .nil
  | _, _, .cons a b => by
    have := AVR.val (f1 := []) (.dat a) (avr_dat (H := H) (σ := σ) b) (fun _ z => nomatch z)
    simpa using this
theorem resA_dat (ρ : Rho) : ∀ ds : List DD, resA ρ (ds.map fun d => AV.val (.dat d)) = some (ds.map SV.dat)
  | [] => rfl
  | d :: r => by simp [resA_dat ρ r]
theorem refs_dat : ∀ ds : List DD, refs (ds.map fun d => AV.val (.dat d)) = []
  | [] => rfl
  | d :: r => by simp [refs_dat r]
theorem wb_dat (ρ : Rho) : ∀ (ds : List DD) (ts : List SV), wb ρ (ds.map fun d => AV.val (.dat d)) ts = ρ
  | [], ts => by cases ts <;> rfl
  | d :: r, [] => rfl
  | d :: r, t :: ts => by simp [wb_dat ρ r ts]
end
theorem RqA.pick {K : PySem.W.Frag} {G : Hp} {vs : List V} {ds : List DD} (h : RqA K G vs ds) : ∀ ix : List Nat, RqA K G (ix.filterMap fun i => vs[i]?) (ix.filterMap fun i => ds[i]?)
  | [] => .nil
  | i :: ix => by
    have ih := RqA.pick h ix
    by_cases hi : i < ds.length
    · obtain ⟨u, e1, e2⟩ := h.get (List.getElem?_eq_getElem hi)
      rw [List.filterMap_cons_some e1, List.filterMap_cons_some (List.getElem?_eq_getElem hi)]
      exact .cons e2 ih
    · have e1 : ds[i]? = none := List.getElem?_eq_none (by omega)
      have e2 : vs[i]? = none := List.getElem?_eq_none (by rw [h.length]; omega)
      rw [List.filterMap_cons_none e1, List.filterMap_cons_none e2]
      exact ih
theorem RqA.gP {K : PySem.W.Frag} {G : Hp} {vs zs : List V} {ds es : List DD} {n m : Nat} {ix : List Nat} (h1 : RqA K G vs ds) (h2 : RqA K G zs es) : RqA K G (gP n m ix vs zs) (gP n m ix ds es) := by
  unfold DL.gP
  rw [h1.length, h2.length]
  split
  · exact (h1.append h2).pick ix
  · exact .nil
theorem Vals.pick {vs : List V} {us : List Value} (h : Vals vs us) : ∀ ix : List Nat, Vals (ix.filterMap fun i => vs[i]?) (ix.filterMap fun i => us[i]?)
  | [] => .nil
  | i :: ix => by
    have ih := Vals.pick h ix
    by_cases hi : i < vs.length
    · obtain ⟨u, e1, e2⟩ := h.get (List.getElem?_eq_getElem hi)
      rw [List.filterMap_cons_some e1, List.filterMap_cons_some (List.getElem?_eq_getElem hi)]
      exact .cons e2 ih
    · have e1 : vs[i]? = none := List.getElem?_eq_none (by omega)
      have e2 : us[i]? = none := List.getElem?_eq_none (by rw [← h.length]; omega)
      rw [List.filterMap_cons_none e1, List.filterMap_cons_none e2]
      exact ih
theorem Vals.gP {vs zs : List V} {us ws : List Value} {n m : Nat} {ix : List Nat} (h1 : Vals vs us) (h2 : Vals zs ws) : Vals (gP n m ix vs zs) (gP n m ix us ws) := by
  unfold DL.gP
  rw [h1.length, h2.length]
  split
  · exact Vals.pick (h1.append h2) ix
  · exact .nil
def HsK (P : Program) (w : World) (K : PySem.W.Frag) (mg : Str → Option Value) (base : Heap) (x : Str) (ps : List Str) (k : Nat) (F : Ctr) (ks : List Str) (n : Nat) (ix : List Nat) : Prop :=
  ∃ f fd, mg x = some (.ref f) ∧ PySem.W.keepIn K (.ref f) = true ∧ KBinds K fd ps ks (gP n ks.length ix) (gP n ks.length ix) ∧ FnG P w K mg base CX0 k f fd ps (spD K F)
@[simp] def fCallK (F : Ctr) (n m : Nat) (ix : List Nat) (fa fk : FDs) : FE := fun ρ Q => fa ρ fun ds ρ1 => fk ρ1 fun es ρ2 => F ((gP n m ix ds es).map .dat) fun r _ => Q r ρ2
theorem de_callk {K : PySem.W.Frag} {io : List Nat} {F : Ctr} {fa fk : FDs} {ta tk : TA} {n m : Nat} {ix : List Nat} {E : XK} (h1 : DAd K io ta fa) (h2 : DAd K io tk fk) : DE K io (tCallK (spD K F) (gP n m ix) E ta tk) (fCallK F n m ix fa fk) := by
  intro B G H σ ρ fp Qd Q hB R hf k
  refine h1 B G H σ ρ fp _ _ hB R hf fun ds ρ1 vs G1 H1 fp1 n1 r1 hf => ?_
  refine h2 B G1 H1 σ ρ1 fp1 _ _ hB n1.rp hf fun es ρ2 zs G2 H2 fp2 n2 r2 hF => ?_
  have rq : RqA K G2 (gP n m ix vs zs) (gP n m ix ds es) := (r1.mono n2.st.ex).gP r2
  have n12 := n1.trans n2
  obtain ⟨g, cg, hg, l1, l2, hr⟩ := args_co n2.rp.co (avr_dat (H := H2) (σ := σ) rq) (fun _ z => nomatch z) (by rw [refs_dat]; exact List.nodup_nil) (resA_dat ρ2 _)
  refine ⟨G2, _, g, _, cg, hF, fun r as' v G' H' g' fr' c' st inn ot d1 d2 q => ?_⟩
  have hl : as'.length = ((gP n m ix ds es).map SV.dat).length := by
    have e1 := c'.len
    have e2 := cg.len
    simp at e1 e2 ⊢
    omega
  obtain ⟨fp3, R3, st3, in3, cl⟩ := back_co (fr := []) n2.rp (fun _ z => nomatch z) (fun _ z => nomatch z) (by rw [refs_dat]; exact List.nodup_nil) (resA_dat ρ2 _) hg l2 hr c' st inn hl
  rw [wb_dat] at R3
  have ng : ∀ a, ¬ In g a := fun a ⟨k, m⟩ => by
    rcases hg k a m with ⟨m, _⟩ | ⟨i, e, _⟩
    · cases m
    · simp [List.getElem?_map] at e
  have old : ∀ a, H2 a = none → H a = none ∨ In fp a := fun a z => by
    by_cases q : In fp a
    · exact .inr q
    · exact .inl (n12.st.fresh q z)
  refine k r _ v G' H' fp3 fr' ⟨R3, n12.st.trans st3 fun a z => z.elim (n12.inn a) (fun z => nomatch z), fun a z => ?_⟩ ot (fun a m z => ?_) (fun a m => ?_) q
  · rcases in3 a z with z | z | z
    · exact n12.inn a z
    · exact (old a z).symm
    · cases z
  · rcases cl a z with z | ⟨z, _⟩
    · exact d1 a m z
    · rcases d2 a m with y | y
      · obtain ⟨⟨o, e⟩, _⟩ := n2.rp.co.here z
        rw [y] at e; cases e
      · exact ng a y
  · exact (d2 a m).elim (old a) fun z => (ng a z).elim
section
variable {X : Cx} {CX : CXT} {io : List Nat} {x : Str} {ps ks : List Str} {k n : Nat} {ix : List Nat} {F : Ctr} {e : Expr} {es : List Expr} {fa fk : FDs} {p pos : Pos} {kws : List Keyword} {f : Addr} {fd : FuncData} {sp : Sp} {E : XK} {t tk : TA} {g : List Value → List Value → List Value} {gV : List V → List V → List V}
theorem pe_callGk (F : FnG X.prog X.w X.K X.mg X.base CX k f fd ps sp) (hr : RoomG k X.A) (hg : Gl X x) (hm : X.mg x = some (.ref f)) (hk : PySem.W.keepIn X.K (.ref f) = true) (hb : KBinds X.K fd ps ks g gV) (hx : Passes CX X E)
    (ha : PA X (e :: es) t) (hkw : PK X kws tk) (hall : (backToKw pos (keywordEach kws X.env)).all (·.1.isSome) = true) (hks : (backToKw pos (keywordEach kws X.env)).filterMap (·.1) = ks)
    (hdb : (x == ("__debug__" : Str)) = false) (he : starEach (e :: es) X.env = (false, eval e X.env) :: starEach es X.env)
    (hpl : ((backTo pos (starEach (e :: es) X.env)).any (·.1) || (backToKw pos (keywordEach kws X.env)).any (·.1.isNone)) = false) : PE X (.Call (.Name x p) (e :: es) kws pos) (tCallK sp gV E t tk) := by
  refine ⟨fun pins s σ H Q I h => wpAny_Call_Name_kw (ld_glob I hg hm ?_ hdb)⟩
  refine PySem.W.callWith_KW (h₀ := X.base) I.ok.mod.kin hk hall (thn (ha.run pos pins s σ H _ I h) ?_) hpl he
  rintro us s1 ⟨vs, H1, I1, r, q⟩
  refine thn (hkw.run pos pins s1 σ H1 _ I1 q) ?_
  rintro ws s2 ⟨zs, H2, I2, rz, q2⟩
  refine ⟨I2.kIn, ?_⟩
  rw [hks]
  exact run_fnkG F hr hb hx I2 r rz q2
theorem pe_callGk0 (F : FnG X.prog X.w X.K X.mg X.base CX k f fd ps sp) (hr : RoomG k X.A) (hg : Gl X x) (hm : X.mg x = some (.ref f)) (hk : PySem.W.keepIn X.K (.ref f) = true) (hb : KBinds X.K fd ps ks g gV) (hx : Passes CX X E)
    (hkw : PK X kws tk) (hall : (backToKw pos (keywordEach kws X.env)).all (·.1.isSome) = true) (hks : (backToKw pos (keywordEach kws X.env)).filterMap (·.1) = ks)
    (hdb : (x == ("__debug__" : Str)) = false) (hpl : ((backTo pos (starEach [] X.env)).any (·.1) || (backToKw pos (keywordEach kws X.env)).any (·.1.isNone)) = false) : PE X (.Call (.Name x p) [] kws pos) (tCallK sp gV E tNil tk) := by
  refine ⟨fun pins s σ H Q I h => wpAny_Call_Name_kw (ld_glob I hg hm ?_ hdb)⟩
  refine PySem.W.callWith_KW0 (h₀ := X.base) I.ok.mod.kin hk hall (thn (hkw.run pos pins s σ H _ I h) ?_) hpl
  rintro ws s2 ⟨zs, H2, I2, rz, q2⟩
  refine ⟨I2.kIn, ?_⟩
  rw [hks]
  exact run_fnkG (us := []) F hr hb hx I2 .nil rz q2
theorem e_callk (h : HsK X.prog X.w X.K X.mg X.base x ps k F ks n ix) (hr : RoomG k X.A) (ha : PDpa X io (e :: es) fa) (hkw : PDkw X io kws fk) (hg : Gl X x := by rfl) (hdb : (x == ("__debug__" : Str)) = false := by decide)
    (hall : (backToKw pos (keywordEach kws X.env)).all (·.1.isSome) = true := by rfl) (hks : (backToKw pos (keywordEach kws X.env)).filterMap (·.1) = ks := by rfl) (he : starEach (e :: es) X.env = (false, eval e X.env) :: starEach es X.env := by rfl)
    (hpl : ((backTo pos (starEach (e :: es) X.env)).any (·.1) || (backToKw pos (keywordEach kws X.env)).any (·.1.isNone)) = false := by rfl) : PDe X io (.Call (.Name x p) (e :: es) kws pos) (fCallK F n ks.length ix fa fk) := by
  obtain ⟨f, fd, h1, h2, h3, h4⟩ := h
  obtain ⟨t, a1, a2⟩ := ha
  obtain ⟨tk, b1, b2⟩ := hkw
  exact ⟨_, pe_callGk h4 hr hg h1 h2 h3 pass0 a1 b1 hall hks hdb he hpl, de_callk a2 b2⟩
theorem e_callk0 (h : HsK X.prog X.w X.K X.mg X.base x ps k F ks n ix) (hr : RoomG k X.A) (hkw : PDkw X io kws fk) (hg : Gl X x := by rfl) (hdb : (x == ("__debug__" : Str)) = false := by decide)
    (hall : (backToKw pos (keywordEach kws X.env)).all (·.1.isSome) = true := by rfl) (hks : (backToKw pos (keywordEach kws X.env)).filterMap (·.1) = ks := by rfl)
    (hpl : ((backTo pos (starEach [] X.env)).any (·.1) || (backToKw pos (keywordEach kws X.env)).any (·.1.isNone)) = false := by rfl) : PDe X io (.Call (.Name x p) [] kws pos) (fCallK F n ks.length ix kNil fk) := by
  obtain ⟨f, fd, h1, h2, h3, h4⟩ := h
  obtain ⟨tk, b1, b2⟩ := hkw
  exact ⟨_, pe_callGk0 h4 hr hg h1 h2 h3 pass0 b1 hall hks hdb hpl, de_callk da_nil b2⟩
end
section
variable {P : Program} {w : World} {K : PySem.W.Frag} {mg : Str → Option Value} {base : Heap} {f : Addr} {fd : FuncData} {x qual : Str} {params : Arguments} {body : List Stmt} {scope : Scope} {ps ks : List Str} {k n : Nat} {ix : List Nat} {F : Ctr}
theorem hsK (G : FnG P w K mg base CX0 k f fd ps (spD K F)) (hm : mg x = some (.ref f)) (F0 : FunD K x qual params body scope [] [] f fd) (hn : ps ≠ [])
    (hb : ∀ (kV doc pm : Value) (an : Option Addr) (cdv ct : Value) (us ws : List Value), us.length = n → ws.length = ks.length → bindArgs (PySem.W.fnOf x qual params body scope .none kV doc pm an cdv ct) ⟨us, ks.zip ws⟩ = pure (ps.zip (gP n ks.length ix us ws))) : HsK P w K mg base x ps k F ks n ix := by
  refine ⟨f, fd, hm, F0.kp, ⟨fun s us ws hK hl => ?_, fun r1 r2 => Vals.gP r1 r2⟩, G⟩
  have hlen : us.length = n ∧ ws.length = ks.length := by
    by_cases q : us.length = n ∧ ws.length = ks.length
    · exact q
    · unfold DL.gP at hl
      rw [if_neg q] at hl
      exact absurd (List.length_eq_zero_iff.mp hl.symm) hn
  obtain ⟨oc, od, dV, kV, doc, pm, an, cdv, ct, osl, rfl, lk, hcd, hD, hK⟩ := F0.ex
  rcases hD with ⟨_, rfl⟩ | ⟨e, _⟩
  · exact PySem.BindsTo.of_eq (hb kV doc pm an cdv ct us ws hlen.1 hlen.2)
  · exact absurd rfl e
end
section
variable {X : Cx} {io ks : List Nat}
theorem de_dv {K : PySem.W.Frag} {te : TE} {fe : FE} (h2 : DE K io te fe) : DV K io te (eV fe) := fun B G H σ ρ fp Qd Q hB R hf k => h2 B G H σ ρ fp _ Q hB R hf fun r ρ' v G' H' fp' fr n ot t1 t2 q => by
  obtain ⟨n', rq⟩ := Nxt.sealed R n ot t1 t2
  exact k _ _ _ _ _ _ n' rq q
theorem dv_de {K : PySem.W.Frag} {te : TE} {fv : FV} (h2 : DV K io te fv) : DE K io te (vE fv) := fun B G H σ ρ fp Qd Q hB R hf k => h2 B G H σ ρ fp _ Q hB R hf fun d ρ' v G' H' fp' n rq q => k _ _ _ _ _ _ [] n (.dat rq) (fun _ z => nomatch z) (fun _ z => nomatch z) q
theorem s_lcS {i : Nat} {y : Str} {py spos pos : Pos} {elt tg iter : Expr} {ifs : List Expr} {scope : Scope} {own : List (Str × Nat)} {fi : FI} {fg : FG} {ft : FT} {fe : FE} (hc : X.calm = true) (hN : X.N.Nodup) (hi : PDi X io tg iter fi) (ok : blkC X.N X.env.scope scope own = true)
    (hg : ∀ (s : Shared) (H : Hp) (C : Addr) (cl : List (Str × Addr)) (fp : List Addr), PDg (X.blk s H scope (compEnvC scope cl C X.env) fp) io ks tg fg) (ht : ∀ (s : Shared) (H : Hp) (C : Addr) (cl : List (Str × Addr)) (fp : List Addr), PDts (X.blk s H scope (compEnvC scope cl C X.env) fp) io ifs ft)
    (he : ∀ (s : Shared) (H : Hp) (C : Addr) (cl : List (Str × Addr)) (fp : List Addr), PDe (X.blk s H scope (compEnvC scope cl C X.env) fp) io elt fe) (hy : X.N[i]? = some y := by rfl) (hyl : X.env.scope.names.lookup y = some .local := by rfl)
    (hsw : swapsWith (.ListComp elt [⟨tg, iter, ifs, 0⟩] scope pos) (some (.Name y py)) spos.line X.env = pure true := by exact sw_true rfl rfl rfl (by decide +kernel)) (hk : ∀ k ∈ ks, k ∈ own.map (·.2) := by decide) (hs : ∀ x, foldedSetIterable iter X.env x = pure x := by intro _; rfl) :
    PDs X io (.Assign [.Name y py] (.ListComp elt [⟨tg, iter, ifs, 0⟩] scope pos) spos) (fSet io i (vE (eV (fLc io fi fg ft fe (own.map (·.2)))))) := by
  obtain ⟨wi, i1, i2⟩ := hi
  exact ⟨_, ps_setLc hc hN hy hyl hsw i1 (blkOk_by ok) (fun s H C cl fp => (hg s H C cl fp).can) (fun s H C cl fp => (ht s H C cl fp).can) (fun s H C cl fp => (he s H C cl fp).can) hs, ds_set (dv_de (de_dv (de_lc i2 hk)))⟩
end
/-! a, b, c = x, y, z -/
theorem OTs.three {K : PySem.W.Frag} {G H : Hp} {vs : List V} {t u w : SV} {fr : List Addr} (h : OTs K G H vs [t, u, w] fr) : ∃ x y z f1 f2 f3, vs = [x, y, z] ∧ OT K G H x t f1 ∧ OT K G H y u f2 ∧ OT K G H z w f3 ∧ (∀ a ∈ f1, a ∉ f2) ∧ (∀ a ∈ f1, a ∉ f3) ∧ (∀ a ∈ f2, a ∉ f3) ∧ (∀ a ∈ f1, a ∈ fr) ∧ (∀ a ∈ f2, a ∈ fr) ∧ ∀ a ∈ f3, a ∈ fr := by
  cases h with
  | cons a b d =>
    obtain ⟨y, z, f2, f3, rfl, o2, o3, d23, i2, i3⟩ := b.two
    exact ⟨_, y, z, _, f2, f3, rfl, a, o2, o3, fun x m m' => d x m (i2 x m'), fun x m m' => d x m (i3 x m'), d23, fun x m => List.mem_append_left _ m, fun x m => List.mem_append_right _ (i2 x m), fun x m => List.mem_append_right _ (i3 x m)⟩
@[simp] def fPar3 (io : List Nat) (i j l : Nat) (fs : FSs) : FS := fun D ρ => fs ρ fun ts ρ1 => ∃ t u w, ts = [t, u, w] ∧ i ∉ io ∧ j ∉ io ∧ l ∉ io ∧ D.nx (((ρ1.set i (some t)).set j (some u)).set l (some w))
theorem out_put {ρ : Rho} {fp : Nat → List Addr} {fr f2 : List Addr} {i : Nat} (h : ∀ a ∈ f2, ¬ In fp a) (d : ∀ a ∈ fr, a ∉ f2) : ∀ a ∈ f2, ¬ In (fun j => if j = i then (if i < ρ.length then fr else []) else fp j) a := fun a m ⟨l, z⟩ => by
  by_cases e : l = i
  · simp only [if_pos e] at z
    by_cases hl : i < ρ.length
    · rw [if_pos hl] at z; exact d a z m
    · rw [if_neg hl] at z; cases z
  · simp only [if_neg e] at z
    exact h a m ⟨l, z⟩
theorem s_par3 {X : Cx} {io : List Nat} {i j l : Nat} {x y z : Str} {a b c : Expr} {fs : FSs} {px py pz pt pos : Pos} {kt k2 : Nat} {pt2 : Pos} (hc : X.calm = true) (hN : X.N.Nodup) (h : PDs' X io [a, b, c] fs) (hi : X.N[i]? = some x := by rfl) (hj : X.N[j]? = some y := by rfl) (hl : X.N[l]? = some z := by rfl) (hij : i ≠ j := by decide) (hil : i ≠ l := by decide) (hjl : j ≠ l := by decide)
    (hx : X.env.scope.names.lookup x = some .local := by rfl) (hy : X.env.scope.names.lookup y = some .local := by rfl) (hz : X.env.scope.names.lookup z = some .local := by rfl)
    (hw : swappedStores [.Tuple [.Name x px, .Name y py, .Name z pz] kt pt] (.Tuple [a, b, c] k2 pt2) X.env = pure (some [x, y, z]) := by rfl)
    (hs : swapsWithSole [.Tuple [.Name x px, .Name y py, .Name z pz] kt pt] (.Tuple [a, b, c] k2 pt2) pos.line X.env = pure false := by rfl) :
    PDs X io (.Assign [.Tuple [.Name x px, .Name y py, .Name z pz] kt pt] (.Tuple [a, b, c] k2 pt2) pos) (fPar3 io i j l fs) := by
  obtain ⟨_, a1, a2⟩ := h
  refine ⟨_, ps_par3 hc hN hi hj hl hij hil hjl hx hy hz a1 hw hs, fun B G H σ ρ fp Dd Dh hB R hf s => ?_⟩
  refine a2 B G H σ ρ fp _ _ hB R hf fun ts ρ1 vs G1 H1 fp1 fr n os t1 t2 ⟨t, u, w, et, hi', hj', hl', q⟩ => ?_
  subst et
  obtain ⟨v1, v2, v3, f1, f2, f3, ev, o1, o2, o3, d12, d13, d23, in1, in2, in3⟩ := os.three
  have hb := R.base t2
  have R1 := n.rp.put (i := i) (by rw [hB]; exact hi') o1 (fun a m => t1 a (in1 a m)) (fun a m => hb a (in1 a m))
  have n2 := out_put (ρ := ρ1) (i := i) (fun a m => t1 a (in2 a m)) d12
  have n3 := out_put (ρ := ρ1) (i := i) (fun a m => t1 a (in3 a m)) d13
  have R2 := R1.put (i := j) (by rw [hB]; exact hj') o2 n2 (fun a m => hb a (in2 a m))
  have R3 := R2.put (i := l) (by rw [hB]; exact hl') o3 (out_put n3 d23) (fun a m => hb a (in3 a m))
  exact ⟨v1, v2, v3, ev, s.nx _ _ _ _ _ R3 q⟩
/-! a list or a tuple is walked -/
@[simp] def itD : DD → Option (List DD)
  | .lst ds => some ds
  | .tup ds => some ds
  | .at_ _ (.lst ds) => some ds
  | _ => none
@[simp] def iLT (fv : FV) : FI := fun ρ Q => fv ρ fun d ρ1 => ∃ ds, itD d = some ds ∧ Q ds ρ1
def iEither (K : PySem.W.Frag) (te : TE) : TI := fun σ H R => te σ H fun x H1 => (∃ a, x = .ref a ∧ (∃ xs, SqL K H1 a xs) ∧ R (Itl K a) H1) ∨ ∃ a, x = .ref a ∧ (∃ xs, SqT K H1 a xs) ∧ R (Itt K a) H1
theorem pi_either {X : Cx} {tg e : Expr} {te : TE} (he : PE X e te) : PI X tg e (iEither X.K te) := ⟨fun pins s σ H R I h => thn (he.run pins s σ H _ I h) fun v s1 ⟨x, H1, J, rx, q⟩ => by
  have own : ∀ b ∈ [s1.heap.objs.size], FpOk X pins H1 b := fun b m => by
    cases (List.mem_singleton.mp m)
    exact J.fpOk (Nat.le_refl _) (J.hok.fresh (Nat.le_refl _))
  rcases q with ⟨a, rfl, ⟨xs, hx⟩, r⟩ | ⟨a, rfl, ⟨xs, hx⟩, r⟩
  · cases rx
    obtain ⟨its, _, p, _⟩ := J.list hx
    exact wpAny_pyIter_list p.isList ⟨_, [_], _, _, H1, rfl, J.kept (t' := s1.toks) (fun b o z => Heap.get?_push_of_some _ z), turn_list a _, ⟨_, Heap.get?_push_size _ rfl, rfl, rfl⟩, own, r⟩
  · cases rx
    obtain ⟨its, _, p, _⟩ := J.tuple hx
    exact wpAny_pyIter_tuple (show s1.heap.IsTuple a its.toArray from p) ⟨_, [_], _, _, H1, rfl, J.kept (t' := s1.toks) (fun b o z => Heap.get?_push_of_some _ z), turn_tuple a _, ⟨_, Heap.get?_push_size _ rfl, rfl, rfl⟩, own, r⟩⟩
theorem i_lt {X : Cx} {io : List Nat} {tg e : Expr} {fv : FV} (h : PDv X io e fv) : PDi X io tg e (iLT fv) := by
  obtain ⟨te, a1, a2⟩ := h
  refine ⟨_, pi_either a1, fun B G H σ ρ fp Qd Rr hB R hf k => ?_⟩
  refine a2 B G H σ ρ fp _ _ hB R hf fun d ρ1 v G1 H1 fp1 n r ⟨ds, ed, q⟩ => ?_
  have lst : ∀ {ds}, Rq X.K G1 v (.lst ds) → Qd ds ρ1 → ∃ a, v = .ref a ∧ (∃ xs, SqL X.K H1 a xs) ∧ Rr (Itl X.K a) H1 := fun {ds} r q => by
    obtain ⟨p, xs, ev, h, rs⟩ := r.lst_inv
    exact ⟨p, ev, ⟨xs, .inl (n.rp.co.sub.rd h)⟩, k _ _ _ _ _ _ n (dj_list h rs) q⟩
  cases d with
  | lst l => cases ed; exact .inl (lst r q)
  | tup l =>
    cases ed
    obtain ⟨p, xs, ev, h, rs⟩ := r.tup_inv
    exact .inr ⟨p, ev, ⟨xs, n.rp.co.sub.t h⟩, k _ _ _ _ _ _ n (dj_tup h rs) q⟩
  | at_ u l =>
    cases l with
    | lst l =>
      cases ed
      cases r with
      | at_ r => exact .inl (lst r q)
    | _ => cases ed
  | _ => cases ed
/-- a halt between two statements -/
theorem cut {f g : FS} {D : DEnds} {ρ : Rho} (M : Rho → Prop) (hM : ∀ ρ, M ρ → g D ρ) (h : ∀ g' : Rho → Prop, (∀ ρ, M ρ → g' ρ) → f { D with nx := g' } ρ) : fSeq f g D ρ := h (g D) hM
/-! == of strs, whatever their signs -/
@[simp] def oEqS : Op2 := fun d e P => ∃ x y, d = .str x ∧ e = .str y ∧ P (.bl (decide (x = y)))
@[simp] def oNeS : Op2 := fun d e P => ∃ x y, d = .str x ∧ e = .str y ∧ P (.bl (!decide (x = y)))
theorem sc_eqS {K : PySem.W.Frag} : ScR K rEq oEqS := fun H x y d e P Q hx hy h k => by
  obtain ⟨a, b, rfl, rfl, p⟩ := h
  cases hx.str_inv
  cases hy.str_inv
  refine ⟨rfl, ?_⟩
  have : decide (V.str a = V.str b) = decide (a = b) := by simp
  rw [this]
  exact k _ _ p (.bl _)
theorem sc_neS {K : PySem.W.Frag} : ScR K rNe oNeS := fun H x y d e P Q hx hy h k => by
  obtain ⟨a, b, rfl, rfl, p⟩ := h
  cases hx.str_inv
  cases hy.str_inv
  refine ⟨rfl, ?_⟩
  have : decide (V.str a = V.str b) = decide (a = b) := by simp
  rw [this]
  exact k _ _ p (.bl _)
section
variable {X : Cx} {io : List Nat} {a b : Expr} {pos : Pos} {fa fb : FO}
theorem p_eqS (ha : PDo X io a fa) (hb : PDo X io b fb) : PDv X io (.Compare a [.Eq] [b] pos) (fBin oEqS fa fb) := p_cmp L2.op_eq sc_eqS (nomark _) ha hb
theorem p_neS (ha : PDo X io a fa) (hb : PDo X io b fb) : PDv X io (.Compare a [.NotEq] [b] pos) (fBin oNeS fa fb) := p_cmp L2.op_ne sc_neS (nomark _) ha hb
theorem q_eqS (ha : PDo X io a fa) (hb : PDo X io b fb) : PDt X io (.Compare a [.Eq] [b] pos) (fTst (fBin oEqS fa fb)) := t_cmp L2.op_eq sc_eqS (nomark _) ha hb
theorem q_neS (ha : PDo X io a fa) (hb : PDo X io b fb) : PDt X io (.Compare a [.NotEq] [b] pos) (fTst (fBin oNeS fa fb)) := t_cmp L2.op_ne sc_neS (nomark _) ha hb
end
section
variable {X : Cx} {io : List Nat} {pos : Pos}
theorem c_list (hm : X.mg "list" = none) (hg : Gl X "list" := by rfl) : PDv X io (.Name "list" pos) (fC (.opq (.ty "list"))) := c_blt (v := .ty "list") (u := .type "list") hm (by decide +kernel) rfl hg
theorem c_tuple (hm : X.mg "tuple" = none) (hg : Gl X "tuple" := by rfl) : PDv X io (.Name "tuple" pos) (fC (.opq (.ty "tuple"))) := c_blt (v := .ty "tuple") (u := .type "tuple") hm (by decide +kernel) rfl hg
theorem c_strT (hm : X.mg "str" = none) (hg : Gl X "str" := by rfl) : PDv X io (.Name "str" pos) (fC (.opq (.ty "str"))) := c_blt (v := .ty "str") (u := .type "str") hm (by decide +kernel) rfl hg
end
end DL

namespace DL
open PySem PySem.Spec PyProof.Rows L2
/-! ### products -/
def bump (f : List Int) (k : Nat) (c : Int) : List Int := f.set k (f.getD k 0 + c)
def rowP (a : Int) : Nat → List Int → List Int → List Int
  | _, [], f => f
  | k, b :: m, f => rowP a (k + 1) m (bump f k (a * b))
def mulG (m : List Int) : Nat → List Int → List Int → List Int
  | _, [], f => f
  | k, a :: l, f => mulG m (k + 1) l (rowP a k m f)
def mulP (l m : List Int) : List Int := mulG m 0 l (List.replicate (l.length + m.length - 1) 0)
theorem bump_len (f : List Int) (k : Nat) (c : Int) : (bump f k c).length = f.length := by simp [bump]
theorem rowP_len (a : Int) : ∀ (k : Nat) (m f : List Int), (rowP a k m f).length = f.length
  | _, [], _ => rfl
  | k, b :: m, f => by rw [rowP, rowP_len, bump_len]
theorem mulG_len (m : List Int) : ∀ (k : Nat) (l f : List Int), (mulG m k l f).length = f.length
  | _, [], _ => rfl
  | k, a :: l, f => by rw [mulG, mulG_len, rowP_len]
theorem bump_get (f : List Int) (k j : Nat) (c : Int) (h : k < f.length) : (bump f k c).getD j 0 = f.getD j 0 + if j = k then c else 0 := by
  unfold bump
  simp only [List.getD_eq_getElem?_getD]
  by_cases e : j = k
  · subst e
    rw [List.getElem?_set_self h, if_pos rfl]
    simp
  · rw [List.getElem?_set_ne (Ne.symm e), if_neg e]
    omega
theorem rowP_hi (a : Int) : ∀ (k : Nat) (m f : List Int) (j : Nat), k + m.length ≤ f.length → k + m.length ≤ j → (rowP a k m f).getD j 0 = f.getD j 0
  | _, [], _, _, _, _ => rfl
  | k, b :: m, f, j, h, hj => by
    simp only [List.length_cons] at h hj
    rw [rowP, rowP_hi a (k + 1) m _ j (by rw [bump_len]; omega) (by omega), bump_get _ _ _ _ (by omega), if_neg (by omega)]
    omega
theorem rowP_top (a : Int) : ∀ (k : Nat) (m f : List Int) (h : m ≠ []), k + m.length ≤ f.length → (rowP a k m f).getD (k + m.length - 1) 0 = f.getD (k + m.length - 1) 0 + a * m.getLast h
  | _, [], _, h, _ => absurd rfl h
  | k, [b], f, _, hl => by
    simp only [List.length_cons, List.length_nil] at hl ⊢
    rw [rowP, rowP, bump_get _ _ _ _ (by omega), if_pos (by omega)]
    simp
  | k, b :: c :: m, f, hh, hl => by
    have ih := rowP_top a (k + 1) (c :: m) (bump f k (a * b)) (by simp) (by rw [bump_len]; simp only [List.length_cons] at hl ⊢; omega)
    simp only [List.length_cons] at ih hl ⊢
    have e : k + 1 + (m.length + 1) - 1 = k + (m.length + 1 + 1) - 1 := by omega
    rw [e] at ih
    rw [rowP, ih, bump_get _ _ _ _ (by omega), if_neg (by omega), show (b :: c :: m).getLast hh = (c :: m).getLast (by simp) from rfl]
    omega
theorem mulG_top (m : List Int) (hm : m ≠ []) : ∀ (k : Nat) (l f : List Int) (h : l ≠ []), k + l.length + m.length - 1 ≤ f.length → (mulG m k l f).getD (k + l.length + m.length - 2) 0 = f.getD (k + l.length + m.length - 2) 0 + l.getLast h * m.getLast hm
  | _, [], _, h, _ => absurd rfl h
  | k, [a], f, _, hl => by
    have hm1 : 0 < m.length := List.length_pos_iff.mpr hm
    simp only [List.length_cons, List.length_nil] at hl ⊢
    have := rowP_top a k m f hm (by omega)
    have e : k + (0 + 1) + m.length - 2 = k + m.length - 1 := by omega
    rw [mulG, mulG, e, this]
    simp
  | k, a :: b :: l, f, hh, hl => by
    have hm1 : 0 < m.length := List.length_pos_iff.mpr hm
    have ih := mulG_top m hm (k + 1) (b :: l) (rowP a k m f) (by simp) (by rw [rowP_len]; simp only [List.length_cons] at hl ⊢; omega)
    simp only [List.length_cons] at ih hl ⊢
    have e : k + 1 + (l.length + 1) + m.length - 2 = k + (l.length + 1 + 1) + m.length - 2 := by omega
    rw [e] at ih
    rw [mulG, ih, rowP_hi a k m f _ (by omega) (by omega), show (a :: b :: l).getLast hh = (b :: l).getLast (by simp) from rfl]
theorem mulP_len (l m : List Int) : (mulP l m).length = l.length + m.length - 1 := by unfold mulP; rw [mulG_len, List.length_replicate]
theorem mulP_last {l m : List Int} (hl : l ≠ []) (hm : m ≠ []) (zl : l.getLast? ≠ some 0) (zm : m.getLast? ≠ some 0) : (mulP l m).getLast? ≠ some 0 := by
  have h1 : 0 < l.length := List.length_pos_iff.mpr hl
  have h2 : 0 < m.length := List.length_pos_iff.mpr hm
  have t := mulG_top m hm 0 l (List.replicate (l.length + m.length - 1) 0) hl (by simp)
  rw [List.getLast?_eq_some_getLast hl] at zl
  rw [List.getLast?_eq_some_getLast hm] at zm
  have n1 : l.getLast hl ≠ 0 := fun e => zl (by rw [e])
  have n2 : m.getLast hm ≠ 0 := fun e => zm (by rw [e])
  intro e
  rw [List.getLast?_eq_getElem?, mulP_len] at e
  have e2 : (mulP l m).getD (0 + l.length + m.length - 2) 0 = 0 := by
    rw [List.getD_eq_getElem?_getD, show 0 + l.length + m.length - 2 = l.length + m.length - 1 - 1 by omega, e]
    rfl
  unfold mulP at e2
  rw [t] at e2
  have e3 : (List.replicate (l.length + m.length - 1) (0 : Int)).getD (0 + l.length + m.length - 2) 0 = 0 := by
    rw [List.getD_eq_getElem?_getD, List.getElem?_replicate]
    split <;> rfl
  rw [e3, Int.zero_add] at e2
  exact (Int.mul_ne_zero n1 n2) e2
theorem trim_zeros : ∀ n, trim (List.replicate n 0) = []
  | 0 => rfl
  | n + 1 => by rw [List.replicate_succ, trim, trim_zeros n]; simp
theorem rowP_nil (a : Int) (k : Nat) (f : List Int) : rowP a k [] f = f := rfl
theorem mulG_nil : ∀ (k : Nat) (l f : List Int), mulG [] k l f = f
  | _, [], _ => rfl
  | k, a :: l, f => by rw [mulG, rowP_nil, mulG_nil]
theorem mulP_trim {l m : List Int} (zl : l.getLast? ≠ some 0) (zm : m.getLast? ≠ some 0) : trim (mulP l m) = if l = [] ∨ m = [] then [] else mulP l m := by
  by_cases hl : l = []
  · subst hl
    rw [if_pos (.inl rfl)]
    exact trim_zeros _
  · by_cases hm : m = []
    · subst hm
      rw [if_pos (.inr rfl)]
      unfold mulP
      rw [mulG_nil]
      exact trim_zeros _
    · rw [if_neg (by simp [hl, hm])]
      exact trim_eq _ (mulP_last hl hm zl zm)
/-! sizes -/
def Bd (B : Nat) (l : List Int) : Prop := ∀ c ∈ l, c.natAbs ≤ B
theorem Bd.mono {B C : Nat} {l : List Int} (h : Bd B l) (le : B ≤ C) : Bd C l := fun c m => Nat.le_trans (h c m) le
theorem bump_each {B C : Nat} {f : List Int} {k : Nat} {c : Int} (hc : c.natAbs ≤ C) (j : Nat) (h : (f.getD j 0).natAbs ≤ B) : ((bump f k c).getD j 0).natAbs ≤ if j = k then B + C else B := by
  by_cases hk : k < f.length
  · rw [bump_get _ _ _ _ hk]
    split <;> omega
  · have : bump f k c = f := by unfold bump; rw [List.set_eq_of_length_le (by omega)]
    rw [this]
    split <;> omega
theorem rowP_each {C : Nat} (a : Int) : ∀ (k : Nat) (m f : List Int), (∀ b ∈ m, (a * b).natAbs ≤ C) → ∀ (j B : Nat), (f.getD j 0).natAbs ≤ B → ((rowP a k m f).getD j 0).natAbs ≤ if j < k then B else B + C
  | _, [], f, _, j, B, h => by rw [rowP]; split <;> omega
  | k, b :: m, f, hm, j, B, h => by
    rw [rowP]
    have h1 := bump_each (k := k) (hm b List.mem_cons_self) j h
    have h2 := rowP_each a (k + 1) m (bump f k (a * b)) (fun x z => hm x (List.mem_cons_of_mem _ z)) j _ h1
    by_cases e : j = k
    · subst e
      rw [if_pos rfl, if_pos (by omega)] at h2
      rw [if_neg (by omega)]; exact h2
    · rw [if_neg e] at h2
      by_cases l : j < k
      · rw [if_pos l]; rw [if_pos (by omega)] at h2; exact h2
      · rw [if_neg l]; rw [if_neg (by omega)] at h2; exact h2
theorem mulG_each {C : Nat} (m : List Int) : ∀ (k : Nat) (l f : List Int), (∀ a ∈ l, ∀ b ∈ m, (a * b).natAbs ≤ C) → ∀ (j B : Nat), (f.getD j 0).natAbs ≤ B → ((mulG m k l f).getD j 0).natAbs ≤ B + l.length * C
  | _, [], f, _, j, B, h => by rw [mulG]; omega
  | k, a :: l, f, hm, j, B, h => by
    rw [mulG]
    have h1 := rowP_each (C := C) a k m f (fun b z => hm a List.mem_cons_self b z) j B h
    have h1' : ((rowP a k m f).getD j 0).natAbs ≤ B + C := by split at h1 <;> omega
    have h2 := mulG_each m (k + 1) l _ (fun x z => hm x (List.mem_cons_of_mem _ z)) j _ h1'
    simp only [List.length_cons, Nat.succ_mul]
    omega
theorem getD_mem {l : List Int} {c : Int} (h : c ∈ l) : ∃ j : Nat, l.getD j 0 = c := by
  obtain ⟨j, hj, e⟩ := List.getElem_of_mem h
  exact ⟨j, by rw [List.getD_eq_getElem?_getD, List.getElem?_eq_getElem hj]; exact e⟩
theorem mulP_bd {B C : Nat} {l m : List Int} (hl : Bd B l) (hm : Bd C m) : Bd (l.length * (B * C)) (mulP l m) := by
  intro c hc
  obtain ⟨j, rfl⟩ := getD_mem hc
  have := mulG_each (C := B * C) m 0 l (List.replicate (l.length + m.length - 1) 0) (fun a ha b hb => by rw [Int.natAbs_mul]; exact Nat.mul_le_mul (hl a ha) (hm b hb)) j 0 (by
    rw [List.getD_eq_getElem?_getD, List.getElem?_replicate]
    split <;> simp)
  rw [Nat.zero_add] at this
  exact this
theorem addP_bd {B C : Nat} : ∀ {l m : List Int}, Bd B l → Bd C m → Bd (B + C) (addP l m)
  | [], m, _, h => fun c z => by rw [addP] at z; have := h c z; omega
  | a :: l, [], h, _ => fun c z => by rw [addP] at z; have := h c z; omega; simp
  | a :: l, b :: m, h1, h2 => fun c z => by
    rw [addP] at z
    rcases List.mem_cons.mp z with e | z
    · have := h1 a List.mem_cons_self
      have := h2 b List.mem_cons_self
      subst e
      omega
    · exact addP_bd (fun x y => h1 x (List.mem_cons_of_mem _ y)) (fun x y => h2 x (List.mem_cons_of_mem _ y)) c z
theorem trim_sub : ∀ {l : List Int} {c : Int}, c ∈ trim l → c ∈ l
  | [], c, h => by cases h
  | a :: l, c, h => by
    rw [trim] at h
    split at h
    · split at h
      · cases h
      · have : c = a := by simpa using h
        rw [this]; exact List.mem_cons_self
    · rename_i t _
      rcases List.mem_cons.mp h with e | h
      · rw [e]; exact List.mem_cons_self
      · exact List.mem_cons_of_mem _ (trim_sub h)
theorem trim_le : ∀ l : List Int, (trim l).length ≤ l.length
  | [] => Nat.le_refl _
  | a :: l => by
    have ih := trim_le l
    rw [trim]
    split
    · split <;> simp
    · simp only [List.length_cons]; omega
theorem trim_bd {B : Nat} {l : List Int} (h : Bd B l) : Bd B (trim l) := fun c m => h c (trim_sub m)
theorem Bd.sm {B k : Nat} {l : List Int} (h : Bd B l) (hk : B < 2 ^ k) : ∀ c ∈ l, Sm k c := fun c m => Nat.lt_of_le_of_lt (h c m) hk
/-! ### what repr shows -/
structure Rz (n D : Nat) (d : DD) : Prop where
  p : d.pure = true
  s : d.py.showable = true
  l : (shD d).length ≤ n
  e : d.py.depth ≤ D
theorem Rz.ok {n D : Nat} {d : DD} (h : Rz n D d) (hn : n ≤ 2 ^ 24) (hD : D ≤ 60) : okR d := ⟨h.p, h.s, Nat.le_trans h.l hn, Nat.le_trans h.e hD⟩
theorem Rz.mono {n D n' D' : Nat} {d : DD} (h : Rz n D d) (hn : n ≤ n') (hD : D ≤ D') : Rz n' D' d := ⟨h.p, h.s, Nat.le_trans h.l hn, Nat.le_trans h.e hD⟩
theorem Rz.int {i : Int} (h : Sm 1920 i) : Rz 1921 0 (.int i) := by
  have hl := h.log (by decide)
  exact ⟨rfl, by simp [DD.py, PyData.showable, hl], PyProof.Rows.int_text_len_1921 hl, Nat.le_refl _⟩
theorem Rz.bl {b : Bool} : Rz 5 0 (.bl b) := ⟨rfl, by simp [DD.py, PyData.showable], by cases b <;> decide, Nat.le_refl _⟩
theorem Rz.non : Rz 4 0 .non := ⟨rfl, by simp [DD.py, PyData.showable], by decide, Nat.le_refl _⟩
theorem Rz.all {n D : Nat} : ∀ {ds : List DD}, (∀ d ∈ ds, Rz n D d) → DD.pures ds = true ∧ PyData.showableAll (DD.pys ds) = true ∧ ((PyData.shownAll (DD.pys ds)).map (·.length)).sum ≤ ds.length * n ∧ (PyData.shownAll (DD.pys ds)).length = ds.length ∧ PyData.depthAll (DD.pys ds) ≤ D
  | [], _ => by simp [DD.pures, DD.pys, PyData.showableAll, PyData.shownAll, PyData.depthAll]
  | d :: r, h => by
    have h1 := h d List.mem_cons_self
    obtain ⟨a, b, c, e, f⟩ := Rz.all fun x m => h x (List.mem_cons_of_mem _ m)
    have l1 : (PyData.shown d.py).length ≤ n := h1.l
    have e1 := h1.e
    refine ⟨by simp [DD.pures, h1.p, a], by simp [DD.pys, PyData.showableAll, h1.s, b], ?_, by simp [DD.pys, PyData.shownAll, e], by simp only [DD.pys, PyData.depthAll]; omega⟩
    simp only [DD.pys, PyData.shownAll, List.map_cons, List.sum_cons, List.length_cons, Nat.succ_mul]
    omega
theorem Rz.lst {n D : Nat} {ds : List DD} (h : ∀ d ∈ ds, Rz n D d) : Rz (ds.length * (n + 2) + 3) (D + 1) (.lst ds) := by
  obtain ⟨a, b, c, e, f⟩ := Rz.all h
  refine ⟨a, b, ?_, by show PyData.depthAll _ + 1 ≤ _; omega⟩
  have := listText_len_le (PyData.shownAll (DD.pys ds))
  rw [e] at this
  rw [Nat.mul_add]
  show (listText (PyData.shownAll (DD.pys ds))).length ≤ _
  omega
theorem Rz.tup {n D : Nat} {ds : List DD} (h : ∀ d ∈ ds, Rz n D d) : Rz (ds.length * (n + 2) + 3) (D + 1) (.tup ds) := by
  obtain ⟨a, b, c, e, f⟩ := Rz.all h
  refine ⟨a, b, ?_, by show PyData.depthAll _ + 1 ≤ _; omega⟩
  have := tupleText_len_le (PyData.shownAll (DD.pys ds))
  rw [e] at this
  rw [Nat.mul_add]
  show (tupleText (PyData.shownAll (DD.pys ds))).length ≤ _
  omega
theorem Rz.ints {l : List Int} (h : ∀ c ∈ l, Sm 1920 c) : Rz (l.length * 1923 + 3) 1 (dI l) := by
  have := Rz.lst (n := 1921) (D := 0) (ds := l.map .int) fun d m => by
    obtain ⟨c, hc, rfl⟩ := List.mem_map.mp m
    exact .int (h c hc)
  simpa [dI] using this
theorem Rz.rat {q : Rat} (h : Qb 1920 q) : Rz 3849 1 (rT q) := by
  have := Rz.tup (n := 1921) (D := 0) (ds := [.int q.num, .int q.den]) fun d m => by
    rcases List.mem_cons.mp m with rfl | m
    · exact .int h.n
    · have : d = .int q.den := by simpa using m
      subst this
      exact .int h.d
  simpa [rT] using this
end DL

namespace DL
open PySem PySem.Spec PyProof.Rows L2
/-! ### a polynomial at a fraction -/
def hA (p q : Int) : List Int → Int × Int
  | [] => (0, 1)
  | c :: l => ((hA p q l).1 * p + c * (hA p q l).2, (hA p q l).2 * q)
theorem hA_pow (p q : Int) : ∀ l, (hA p q l).2 = q ^ l.length
  | [] => by simp [hA]
  | c :: l => by rw [hA, hA_pow p q l, List.length_cons, Int.pow_succ]
theorem rat_dn (x : Rat) : (x.den : Rat) * x = (x.num : Rat) := by
  have h := Rat.num_divInt_den x
  rw [Rat.divInt_eq_div] at h
  have dn : ((x.den : Int) : Rat) ≠ 0 := by
    have := x.den_nz
    exact_mod_cast this
  have e3 : (((x.den : Int)) : Rat) = (x.den : Rat) := rfl
  rw [e3] at h dn
  have h2 : (x.num : Rat) = (x.num : Rat) / (x.den : Rat) * (x.den : Rat) := by grind
  rw [h, Rat.mul_comm] at h2
  exact h2.symm
theorem hA_eval (x : Rat) : ∀ l, ((hA x.num x.den l).1 : Rat) * (x.den : Rat) = ((hA x.num x.den l).2 : Rat) * evalR l x
  | [] => by simp [hA, evalR]
  | c :: l => by
    have ih := hA_eval x l
    have hx := rat_dn x
    simp only [hA, evalR]
    rw [Rat.intCast_add, Rat.intCast_mul, Rat.intCast_mul, Rat.intCast_mul]
    have e : ((x.den : Int) : Rat) = (x.den : Rat) := rfl
    rw [e]
    generalize ((hA x.num x.den l).1 : Rat) = f at *
    generalize ((hA x.num x.den l).2 : Rat) = w at *
    generalize evalR l x = v at *
    generalize (x.den : Rat) = d at *
    rw [← hx]
    grind
theorem hA_bd {A B : Nat} {x : Rat} (hx : Qb B x) : ∀ {l : List Int}, (∀ c ∈ l, Sm A c) → Sm ((A + B + 1) * l.length) (hA x.num x.den l).1 ∧ Sm (B * l.length + 1) (hA x.num x.den l).2
  | [], _ => by
    refine ⟨?_, ?_⟩
    · show Sm _ 0
      unfold Sm; simp
    · show Sm _ 1
      unfold Sm; simp
  | c :: l, h => by
    obtain ⟨h1, h2⟩ := hA_bd hx fun y m => h y (List.mem_cons_of_mem _ m)
    have hc := h c List.mem_cons_self
    refine ⟨?_, ?_⟩
    · refine ((h1.mul hx.n).add (hc.mul h2)).mono ?_
      simp only [List.length_cons, Nat.mul_succ]
      have : B * l.length ≤ (A + B + 1) * l.length := Nat.mul_le_mul_right _ (by omega)
      have b1 : 1 ≤ B := by
        cases B with
        | zero => have := hx.d; have := x.den_pos; unfold Sm at *; simp at *; omega
        | succ n => omega
      have : max ((A + B + 1) * l.length + B) (A + (B * l.length + 1)) ≤ (A + B + 1) * l.length + (A + B) := Nat.max_le.mpr ⟨by omega, by omega⟩
      omega
    · refine (h2.mul hx.d).mono ?_
      simp only [List.length_cons, Nat.mul_succ]
      omega
def partsP (l : List Int) (x : Rat) : Int × Int := if l = [] then (0, 1) else ((hA x.num x.den l).1, (hA x.num x.den l).2.fdiv x.den)
theorem partsP_den (l : List Int) (x : Rat) : (partsP l x).2 = (x.den : Int) ^ (l.length - 1) := by
  unfold partsP
  split
  · rename_i h; subst h; rfl
  · rename_i h
    obtain ⟨c, r, rfl⟩ := List.exists_cons_of_ne_nil h
    show (hA x.num x.den (c :: r)).2.fdiv x.den = _
    rw [hA_pow, List.length_cons, Int.pow_succ, Int.mul_fdiv_cancel _ (rden x)]
    rfl
theorem partsP_ne (l : List Int) (x : Rat) : (partsP l x).2 ≠ 0 := by rw [partsP_den]; exact Int.pow_ne_zero (rden x)
theorem partsP_eval (l : List Int) (x : Rat) : Rat.divInt (partsP l x).1 (partsP l x).2 = evalR l x := by
  by_cases h : l = []
  · subst h; simp [partsP, evalR]
  · have e := hA_eval x l
    have n := partsP_ne l x
    obtain ⟨c, r, rfl⟩ := List.exists_cons_of_ne_nil h
    have e1 : (partsP (c :: r) x).1 = (hA x.num x.den (c :: r)).1 := by simp [partsP]
    have e2 : (hA x.num x.den (c :: r)).2 = (partsP (c :: r) x).2 * x.den := by rw [partsP_den, hA_pow, List.length_cons, Int.pow_succ]; rfl
    rw [← e1, e2, Rat.intCast_mul] at e
    rw [Rat.divInt_eq_div]
    have dn : (x.den : Rat) ≠ 0 := by
      have := x.den_nz
      exact_mod_cast this
    have wn : ((partsP (c :: r) x).2 : Rat) ≠ 0 := by exact_mod_cast n
    have e3 : (((x.den : Int)) : Rat) = (x.den : Rat) := rfl
    rw [e3] at e
    generalize ((partsP (c :: r) x).1 : Rat) = f at *
    generalize ((partsP (c :: r) x).2 : Rat) = w at *
    generalize evalR (c :: r) x = v at *
    generalize (x.den : Rat) = d at *
    grind
theorem evalR_snoc (c : Int) (x : Rat) : ∀ l, evalR (l ++ [c]) x = evalR l x + (c : Rat) * x ^ l.length
  | [] => by simp [evalR, Rat.mul_zero, Rat.add_zero, Rat.zero_add]
  | a :: l => by
    rw [List.cons_append, evalR, evalR_snoc c x l, evalR, List.length_cons, Rat.pow_succ]
    grind
def addG : DD → SV
  | .tup [.int a, .int b] => .dat (.int (a + b))
  | _ => .dat .non
@[simp] theorem addG_two {a b : Int} : addG (.tup [.int a, .int b]) = .dat (.int (a + b)) := rfl
theorem zip_addI : ∀ (l m : List Int), (List.map addG ((l.zip m).map fun p => DD.tup [.int p.1, .int p.2])) = (List.zipWith (· + ·) l m).map fun i => SV.dat (.int i)
  | [], _ => rfl
  | _ :: _, [] => rfl
  | a :: l, b :: m => by
    have ih := zip_addI l m
    simp only [List.zip_cons_cons, List.map_cons, List.zipWith_cons_cons, ih, addG_two]
theorem ints_inj : ∀ {l m : List Int}, l.map DD.int = m.map DD.int → l = m
  | [], [], _ => rfl
  | [], _ :: _, h => by cases h
  | _ :: _, [], h => by cases h
  | a :: l, b :: m, h => by
    simp only [List.map_cons, List.cons.injEq, DD.int.injEq] at h
    rw [h.1, ints_inj h.2]
@[simp] theorem dI_inj {l m : List Int} : dI l = dI m ↔ l = m := ⟨fun h => ints_inj (by simpa [dI] using h), fun h => by rw [h]⟩
@[simp] theorem rT_inj {x y : Rat} : rT x = rT y ↔ x = y := by
  constructor
  · intro h
    have h' : x.num = y.num ∧ (x.den : Int) = y.den := by simpa [rT] using h
    exact Rat.ext h'.1 (by omega)
  · rintro rfl; rfl
theorem enumD_at (ds : List DD) (i : Nat) : (enumD ds)[i]? = (ds[i]?).map fun d => DD.tup [.int i, d] := by
  unfold enumD
  rw [List.getElem?_map, List.getElem?_zipIdx]
  cases ds[i]? <;> simp
theorem enumI_get {l : List Int} {i : Nat} {d : DD} (h : (enumD (l.map .int))[i]? = some d) : ∃ a, l[i]? = some a ∧ d = .tup [.int i, .int a] := by
  rw [enumD_at, List.getElem?_map] at h
  cases e : l[i]? with
  | none => rw [e] at h; cases h
  | some a => rw [e] at h; exact ⟨a, rfl, (Option.some.inj h).symm⟩
theorem intsD_get {l : List Int} {i : Nat} {d : DD} (h : (l.map DD.int)[i]? = some d) : ∃ a, l[i]? = some a ∧ d = .int a := by
  rw [List.getElem?_map] at h
  cases e : l[i]? with
  | none => rw [e] at h; cases h
  | some a => rw [e] at h; exact ⟨a, rfl, (Option.some.inj h).symm⟩
theorem Sm.pow {k : Nat} {a : Int} (h : Sm k a) : ∀ n : Nat, Sm (k * n + 1) (a ^ n)
  | 0 => by unfold Sm; simp
  | n + 1 => by
    rw [Int.pow_succ]
    exact ((Sm.pow h n).mul h).mono (by rw [Nat.mul_succ]; omega)
/-- the list as a tree -/
def tI (l : List Int) : List SV := l.map fun i => .dat (.int i)
@[simp] theorem tI_len (l : List Int) : (tI l).length = l.length := by simp [tI]
theorem tI_at {l : List Int} {n : Nat} (h : n < l.length) : atI (tI l) (n : Int) = some (.dat (.int (l.getD n 0))) := by
  unfold tI
  rw [atI_map, atI_nat h]
  simp [List.getD_eq_getElem?_getD, h]
theorem tI_set {l : List Int} {n : Nat} {v : Int} : (tI l).set n (.dat (.int v)) = tI (l.set n v) := by simp [tI, List.map_set]
theorem tI_rep {n : Nat} {c : Int} : List.replicate n (SV.dat (.int c)) = tI (List.replicate n c) := by simp [tI]
theorem oI_tI (l : List Int) : oI l = .own (tI l) := rfl
theorem drop_at {l : List Int} {i : Nat} {a : Int} (h : l[i]? = some a) : l.drop i = a :: l.drop (i + 1) := by
  obtain ⟨hl, e⟩ := List.getElem?_eq_some_iff.mp h
  rw [List.drop_eq_getElem_cons hl, e]
@[simp] theorem ixN30 : ixN 3 0 = some 0 := rfl
@[simp] theorem ixN31 : ixN 3 1 = some 1 := rfl
@[simp] theorem ixN32 : ixN 3 2 = some 2 := rfl
@[simp] theorem bits10 : Builtin.Int.intBits 10 = 4 := by decide +kernel
theorem smc {k : Nat} {n : Int} (h : n.natAbs < 2 ^ k := by decide +kernel) : Sm k n := h
theorem Sm.pw {k n : Nat} {x : Int} (h : Sm k x) (e : k * n ≤ 134217728 := by decide) : (Builtin.Int.intBits x : Int) * n ≤ 134217728 := by
  have h1 : Builtin.Int.intBits x * n ≤ k * n := Nat.mul_le_mul_right n h.bits
  have : Builtin.Int.intBits x * n ≤ 134217728 := Nat.le_trans h1 e
  rw [← Int.natCast_mul]
  omega
theorem fmod_in (x : Int) {m : Int} (h : 0 < m) : 0 ≤ x.fmod m ∧ x.fmod m < m := by
  rw [Int.fmod_eq_emod_of_nonneg _ (by omega)]
  exact ⟨Int.emod_nonneg _ (by omega), Int.emod_lt_of_pos _ h⟩
theorem fdiv_sm {k : Nat} {x m : Int} (h : Sm k x) (hm : 0 ≤ m) : Sm k (x.fdiv m) := by
  rw [Int.fdiv_eq_ediv_of_nonneg _ hm]
  exact h.le (Int.natAbs_ediv_le_natAbs _ _)
theorem fmod_sm {k : Nat} (x : Int) {m : Int} (h : 0 < m) (hm : Sm k m) : Sm k (x.fmod m) := by
  have := fmod_in x h
  exact hm.le (by omega)
theorem fmodN (l r : Nat) : (l : Int).fmod (r : Int) = ((l % r : Nat) : Int) := by
  rw [Int.fmod_eq_emod_of_nonneg _ (by omega), Int.natCast_emod]
/-- the turns of Euclid's way -/
structure Eu (g : Nat) (i l r : Nat) : Prop where
  g : Nat.gcd l r = g
  z : i = 0 → r < 2 ^ 9000
  s : 0 < i → r < l ∧ l * r * 2 ^ (i - 1) < 2 ^ 9000 * 2 ^ 9000
theorem Eu.step {g i l r : Nat} (h : Eu g i l r) (h0 : r ≠ 0) : Eu g (i + 1) r (l % r) := by
  have lt := Nat.mod_lt l (Nat.pos_of_ne_zero h0)
  refine ⟨?_, fun z => by omega, fun _ => ⟨lt, ?_⟩⟩
  · rw [Nat.gcd_comm r, ← Nat.gcd_rec, Nat.gcd_comm]; exact h.g
  · by_cases z : i = 0
    · subst z
      have h1 := h.z rfl
      simp only [Nat.zero_add, Nat.sub_self, Nat.pow_zero, Nat.mul_one]
      exact Nat.mul_lt_mul'' h1 (Nat.lt_trans lt h1)
    · obtain ⟨h1, h2⟩ := h.s (by omega)
      refine Nat.lt_of_le_of_lt ?_ h2
      obtain ⟨n, rfl⟩ : ∃ n, i = n + 1 := ⟨i - 1, by omega⟩
      simp only [Nat.add_sub_cancel]
      rw [Nat.pow_succ]
      have h3 : l % r + r ≤ l := by
        have := Nat.mod_add_div l r
        have h4 : 1 ≤ l / r := Nat.div_pos (by omega) (by omega)
        have := Nat.mul_le_mul_left r h4
        omega
      have h5 : l % r * 2 ≤ l := by omega
      calc r * (l % r) * (2 ^ n * 2) = (l % r * 2) * r * 2 ^ n := by grind
        _ ≤ l * r * 2 ^ n := Nat.mul_le_mul_right _ (Nat.mul_le_mul_right _ h5)
theorem Eu.last {g l r : Nat} (h : Eu g 20000 l r) : l = g := by
  obtain ⟨h1, h2⟩ := h.s (by omega)
  have e : l * r = 0 := by
    by_cases z : l * r = 0
    · exact z
    · have a : 1 * 2 ^ (20000 - 1) ≤ l * r * 2 ^ (20000 - 1) := Nat.mul_le_mul_right _ (by omega)
      rw [← Nat.pow_add] at h2
      have b : 2 ^ (9000 + 9000) ≤ 2 ^ (20000 - 1) := Nat.pow_le_pow_right (by omega) (by omega)
      omega
  have r0 : r = 0 := by
    rcases Nat.mul_eq_zero.mp e with z | z
    · omega
    · exact z
  have := h.g
  rw [r0, Nat.gcd_zero_right] at this
  exact this
def addAt (L M : List Int) : DD → SV
  | .int k => .dat (.int (L.getD k.toNat 0 + M.getD k.toNat 0))
  | _ => .dat .non
theorem addAt_all (L M : List Int) {n : Nat} (hL : L.length = n) (hM : M.length = n) : (rgD 0 1 n).map (addAt L M) = (List.zipWith (· + ·) L M).map fun i => SV.dat (.int i) := by
  apply List.ext_getElem
  · simp [rgD, hL, hM]
  · intro i h1 h2
    have hi : i < n := by simpa [rgD] using h1
    simp [rgD, addAt, hL, hM, hi]
theorem rT_int (c : Int) : DD.tup [.int c, .int 1] = rT (c : Rat) := by simp [rT]
theorem Qb.pow {k : Nat} {x : Rat} (h : Qb k x) : ∀ n : Nat, Qb (k * n + 1) (x ^ n)
  | 0 => by
    have e : x ^ 0 = ((1 : Int) : Rat) := by simp
    rw [e]
    exact Qb.int (smc (by simp)) (by omega)
  | n + 1 => by
    rw [Rat.pow_succ]
    exact ((Qb.pow h n).mul h).mono (by rw [Nat.mul_succ]; omega)
theorem evalR_take {l : List Int} {i : Nat} {c : Int} (x : Rat) (h : l[i]? = some c) : evalR (l.take (i + 1)) x = evalR (l.take i) x + (c : Rat) * x ^ i := by
  have hi := (List.getElem?_eq_some_iff.mp h).1
  rw [List.take_add_one, h, Option.toList_some, evalR_snoc, List.length_take, Nat.min_eq_left (by omega)]
theorem evalR_qb {A B n : Nat} {x : Rat} (hx : Qb B x) {l : List Int} (sl : ∀ c ∈ l, Sm A c) (hn : l.length ≤ n) : ∀ i, i ≤ l.length → Qb ((A + B * (n + 1) + 3) * i + 1) (evalR (l.take i) x)
  | 0, _ => by
    show Qb _ ((0 : Int) : Rat)
    exact Qb.int (smc (by simp)) (by omega)
  | i + 1, h => by
    have ih := evalR_qb hx sl hn i (by omega)
    rw [evalR_take x (List.getElem?_eq_getElem (show i < l.length by omega))]
    have hc : Qb (A + 1) ((l[i] : Int) : Rat) := Qb.int ((sl _ (List.getElem_mem _)).mono (by omega)) (by omega)
    refine (ih.add (hc.mul (hx.pow i))).mono ?_
    have := Nat.mul_le_mul (Nat.le_refl B) (show i ≤ n + 1 by omega)
    rw [Nat.mul_succ (A + B * (n + 1) + 3) i]
    omega
@[simp] theorem tI_data (l : List Int) : (tI l).map SV.data = l.map .int := by simp [tI]
theorem tI_end (l : List Int) : atI (tI l) (-1) = l.getLast?.map fun i => SV.dat (.int i) := by rw [atI_end]; simp [tI]
theorem tI_snoc (l : List Int) (i : Int) : tI l ++ [SV.dat (.int i)] = tI (l ++ [i]) := by simp [tI]
theorem ixN_end {n : Nat} (h : 0 < n) : ixN n (-1) = some (n - 1) := by
  unfold ixN
  have h1 : (1 : Int) ≤ n := by omega
  have h2 : (-1 + (n : Int)).toNat = n - 1 := by omega
  simp [h1, h2]
theorem at4 {a b c d : Int} {n : Int} (h0 : 0 ≤ n) (h1 : n < 4) : ∃ x, atI [DD.int a, DD.int b, DD.int c, DD.int d] n = some (.int x) ∧ (x = a ∨ x = b ∨ x = c ∨ x = d) := by
  have : n = 0 ∨ n = 1 ∨ n = 2 ∨ n = 3 := by omega
  rcases this with rfl | rfl | rfl | rfl
  · exact ⟨a, by simp, .inl rfl⟩
  · exact ⟨b, by simp, .inr (.inl rfl)⟩
  · exact ⟨c, by simp, .inr (.inr (.inl rfl))⟩
  · exact ⟨d, by rfl, .inr (.inr (.inr rfl))⟩
theorem at3 {a b c : Int} {n : Int} (h0 : 0 ≤ n) (h1 : n < 3) : ∃ x, atI [DD.int a, DD.int b, DD.int c] n = some (.int x) ∧ (x = a ∨ x = b ∨ x = c) := by
  have : n = 0 ∨ n = 1 ∨ n = 2 := by omega
  rcases this with rfl | rfl | rfl
  · exact ⟨a, by simp, .inl rfl⟩
  · exact ⟨b, by simp, .inr (.inl rfl)⟩
  · exact ⟨c, by simp, .inr (.inr rfl)⟩
theorem sm_of {k : Nat} {n b : Int} (h0 : -b ≤ n) (h1 : n ≤ b) (hb : b.natAbs < 2 ^ k := by decide +kernel) : Sm k n := by
  have : n.natAbs ≤ b.natAbs := by omega
  exact Nat.lt_of_le_of_lt this hb
end DL

namespace DL
open PySem PySem.Spec PyProof.Rows L2
/-! ### copies, marks -/
mutual
def cp : DD → SV
  | .lst l => .own (cps l)
  | .tup l => .dat (.tup (SV.datas (cps l)))
  | d => .dat d
def cps : List DD → List SV
  | [] => []
  | d :: r => cp d :: cps r
end
theorem cps_eq : ∀ l, cps l = l.map cp
  | [] => rfl
  | d :: r => by simp [cps, cps_eq r]
mutual
theorem cp_data : ∀ d : DD, (cp d).data = d
  | .lst l => by simp only [cp, SV.data, cps_data l]
  | .tup l => by simp only [cp, SV.data, cps_data l]
  | .non => rfl
  | .bl _ => rfl
  | .int _ => rfl
  | .str _ => rfl
  | .obj _ _ => rfl
  | .opq _ => rfl
  | .at_ _ _ => rfl
  | .klst _ => rfl
theorem cps_data : ∀ l : List DD, SV.datas (cps l) = l
  | [] => rfl
  | d :: r => by simp only [cps, SV.datas, cp_data d, cps_data r]
end
/-- what can be copied -/
def okC : Nat → DD → Prop
  | 0, _ => False
  | n + 1, .lst l => l.length ≤ 2 ^ 24 ∧ ∀ d ∈ l, okC n d
  | n + 1, .tup l => l.length ≤ 2 ^ 24 ∧ ∀ d ∈ l, okC n d
  | _ + 1, .non => True
  | _ + 1, .bl _ => True
  | _ + 1, .int _ => True
  | _ + 1, .str _ => True
  | _ + 1, _ => False
theorem okC_up : ∀ {n : Nat} {d : DD}, okC n d → okC (n + 1) d
  | 0, _, h => h.elim
  | n + 1, .lst l, h => ⟨h.1, fun d m => okC_up (h.2 d m)⟩
  | n + 1, .tup l, h => ⟨h.1, fun d m => okC_up (h.2 d m)⟩
  | _ + 1, .non, _ => trivial
  | _ + 1, .bl _, _ => trivial
  | _ + 1, .int _, _ => trivial
  | _ + 1, .str _, _ => trivial
def cCopy (n : Nat) : Ctr := fun as Q => ∃ d, as = [.dat d] ∧ okC n d ∧ Q (cp d) as
/-! lists told with their places -/
mutual
def labD : DD → List DD
  | .at_ v (.lst l) => .at_ v (.lst l) :: labs l
  | .tup l => labs l
  | _ => []
def labs : List DD → List DD
  | [] => []
  | d :: r => labD d ++ labs r
end
def okL : Nat → DD → Prop
  | 0, _ => False
  | n + 1, .at_ _ (.lst l) => l.length ≤ 2 ^ 24 ∧ (labs l).length < 2 ^ 24 - 1 ∧ ∀ d ∈ l, okL n d
  | n + 1, .tup l => l.length ≤ 2 ^ 24 ∧ (labs l).length < 2 ^ 24 - 1 ∧ ∀ d ∈ l, okL n d
  | _ + 1, .non => True
  | _ + 1, .bl _ => True
  | _ + 1, .int _ => True
  | _ + 1, .str _ => True
  | _ + 1, _ => False
def cLists (n : Nat) : Ctr := fun as Q => ∃ d, as = [.dat d] ∧ okL n d ∧ Q (.own ((labD d).map .dat)) as
theorem labs_eq : ∀ l, labs l = (l.map labD).flatten
  | [] => rfl
  | d :: r => by simp [labs, labs_eq r]
theorem labs_app (l m : List DD) : labs (l ++ m) = labs l ++ labs m := by simp [labs_eq]
theorem labs_step {l : List DD} {i : Nat} {d : DD} (h : l[i]? = some d) : labs (l.take (i + 1)) = labs (l.take i) ++ labD d := by
  rw [List.take_add_one, h, Option.toList_some, labs_app]
  simp [labs]
theorem labs_le (l : List DD) (i : Nat) : (labs (l.take i)).length ≤ (labs l).length := by
  have : labs l = labs (l.take i) ++ labs (l.drop i) := by rw [← labs_app, List.take_append_drop]
  rw [this, List.length_append]
  omega
def negG : DD → SV
  | .int i => .dat (.int (0 - i))
  | _ => .dat .non
@[simp] theorem negG_int {i : Int} : negG (.int i) = .dat (.int (0 - i)) := rfl
theorem negG_all (l : List Int) : (l.map DD.int).map negG = tI (l.map fun i => 0 - i) := by simp [tI]
@[simp] theorem ints_inj' {l m : List Int} : (l.map DD.int = m.map DD.int) ↔ l = m := ⟨ints_inj, fun h => by rw [h]⟩
/-- a polynomial as the law draws it -/
structure PL (l : List Int) : Prop where
  n : l.length ≤ 8
  b : Bd 1000000 l
  z : l.getLast? ≠ some 0
theorem neg_bd {B : Nat} {l : List Int} (h : Bd B l) : Bd B (l.map fun i => 0 - i) := fun c m => by
  obtain ⟨a, ha, rfl⟩ := List.mem_map.mp m
  have := h a ha
  omega
theorem PL.neg {l : List Int} (h : PL l) : PL (l.map fun i => 0 - i) := ⟨by simpa using h.n, neg_bd h.b, by
  have := h.z
  rw [List.getLast?_map]
  cases e : l.getLast? with
  | none => simp
  | some a =>
    rw [e] at this
    simp at this ⊢
    omega⟩
theorem app_bd {B : Nat} {l m : List Int} (h1 : Bd B l) (h2 : Bd B m) : Bd B (l ++ m) := fun c z => (List.mem_append.mp z).elim (h1 c) (h2 c)
theorem take_bd {B n : Nat} {l : List Int} (h : Bd B l) : Bd B (l.take n) := fun c z => h c (List.mem_of_mem_take z)
theorem drop_bd {B n : Nat} {l : List Int} (h : Bd B l) : Bd B (l.drop n) := fun c z => h c (List.mem_of_mem_drop z)
theorem PL.mix {l : List Int} (h : PL l) {n : Nat} (hn : n ≤ 2) : PL (trim (l.take n ++ (l.drop 2).map fun i => 0 - i)) := ⟨by
  refine Nat.le_trans (trim_le _) ?_
  have := h.n
  simp
  omega, trim_bd (app_bd (take_bd h.b) (neg_bd (drop_bd h.b))), trim_last _⟩
theorem cut_take {α : Type} {l : List α} {n : Nat} : DL.cutD l none (some (n : Int)) = l.take n := by
  unfold DL.cutD
  rw [HT.sIx_none, HT.sIx_nat, List.drop_zero, Nat.sub_zero]
  by_cases h : n ≤ l.length
  · rw [Nat.min_eq_left h]
  · rw [Nat.min_eq_right (by omega), List.take_length, List.take_of_length_le (by omega)]
theorem cut_from2 {α : Type} {l : List α} : DL.cutD l (some 2) none = l.drop 2 := cut_from (n := 2)
theorem cut_to5 {α : Type} {l : List α} : DL.cutD l none (some 5) = l.take 5 := cut_take (n := 5)
theorem cut_to6 {α : Type} {l : List α} : DL.cutD l none (some 6) = l.take 6 := cut_take (n := 6)
end DL

namespace DL
open PySem PySem.Spec PyProof.Rows L2
/-! ### trees of lists, marked in order -/
mutual
def cnt : SV → Nat
  | .own ts => cnts ts + 1
  | _ => 0
def cnts : List SV → Nat
  | [] => 0
  | t :: r => cnt t + cnts r
end
mutual
def mk (k : Nat) : Nat → SV → SV
  | b, .own ts => .own (mks k (b + 1) ts ++ if b < k then [.dat (.int b)] else [])
  | _, .dat d => .dat d
  | _, .ob C fs => .ob C fs
def mks (k : Nat) : Nat → List SV → List SV
  | _, [] => []
  | b, t :: r => mk k b t :: mks k (b + cnt t) r
end
def markT (t : SV) : SV := mk (cnt t) 0 t
mutual
theorem mk_out {j : Nat} : ∀ (b : Nat) (t : SV), j < b ∨ b + cnt t ≤ j → mk (j + 1) b t = mk j b t
  | b, .own ts, h => by
    simp only [cnt] at h
    rw [mk, mk, mks_out (b + 1) ts (by omega)]
    have : (b < j + 1) = (b < j) := by simp only [eq_iff_iff]; omega
    simp only [this]
  | _, .dat _, _ => rfl
  | _, .ob _ _, _ => rfl
theorem mks_out {j : Nat} : ∀ (b : Nat) (ts : List SV), j < b ∨ b + cnts ts ≤ j → mks (j + 1) b ts = mks j b ts
  | _, [], _ => rfl
  | b, t :: r, h => by
    simp only [cnts] at h
    rw [mks, mks, mk_out b t (by omega), mks_out (b + cnt t) r (by omega)]
end
mutual
theorem mk_zero : ∀ (b : Nat) (t : SV), mk 0 b t = t
  | b, .own ts => by rw [mk, mks_zero (b + 1) ts]; simp
  | _, .dat _ => rfl
  | _, .ob _ _ => rfl
theorem mks_zero : ∀ (b : Nat) (ts : List SV), mks 0 b ts = ts
  | _, [] => rfl
  | b, t :: r => by rw [mks, mk_zero, mks_zero]
end
theorem mks_len (k : Nat) : ∀ (b : Nat) (ts : List SV), (mks k b ts).length = ts.length
  | _, [] => rfl
  | b, t :: r => by rw [mks, List.length_cons, mks_len k (b + cnt t) r, List.length_cons]
/-- what can be marked -/
def okT : Nat → SV → Prop
  | 0, _ => False
  | n + 1, .own ts => ts.length < 2 ^ 24 ∧ ∀ t ∈ ts, okT n t
  | n + 1, .dat d => okL (n + 1) d ∧ labD d = []
  | _ + 1, .ob _ _ => False
def key : DD → V
  | .at_ v _ => v
  | _ => .non
section
variable {K : PySem.W.Frag} {G H F : Hp}
theorem labs_nil : ∀ {ds : List DD}, (∀ d ∈ ds, labD d = []) → labs ds = []
  | [], _ => rfl
  | d :: r, h => by rw [labs, h d List.mem_cons_self, labs_nil fun x m => h x (List.mem_cons_of_mem _ m)]; rfl
mutual
theorem OT.lab (s : Sub G F) : ∀ (t : SV) {n : Nat} {v : V} {fp : List Addr}, OT K G H v t fp → okT n t → fp.length < 2 ^ 24 - 1 → (∀ a ∈ fp, ∀ o, H a = some o → F a = some o) →
    ∃ d, Rq K F v d ∧ okL n d ∧ (labD d).map key = fp.map V.ref
  | .dat d, 0, _, _, _, h, _, _ => h.elim
  | .dat d, n + 1, _, _, o, h, _, _ => by
    obtain ⟨r, rfl⟩ := o.dat_inv
    exact ⟨d, r.mono s, h.1, by rw [h.2]; rfl⟩
  | .own ts, 0, _, _, _, h, _, _ => h.elim
  | .own ts, n + 1, _, _, o, h, z, k => by
    obtain ⟨a, vs, f, rfl, rfl, e1, e2, os, na⟩ := o.own_inv
    simp only [List.length_cons] at z
    obtain ⟨ds, r, ok, lk, hl⟩ := OTs.lab s ts os h.2 (by omega) fun x m => k x (List.mem_cons_of_mem _ m)
    have lz : (labs ds).length = f.length := by
      have := congrArg List.length lk
      simpa using this
    refine ⟨.at_ (.ref a) (.lst ds), .at_ (.lst (.inl (k a List.mem_cons_self _ e1)) r), ⟨?_, ?_, ok⟩, ?_⟩
    · have := h.1; omega
    · omega
    · rw [labD, List.map_cons, lk]; rfl
  | .ob _ _, 0, _, _, _, h, _, _ => h.elim
  | .ob _ _, _ + 1, _, _, _, h, _, _ => h.elim
theorem OTs.lab (s : Sub G F) : ∀ (ts : List SV) {n : Nat} {vs : List V} {fp : List Addr}, OTs K G H vs ts fp → (∀ t ∈ ts, okT n t) → fp.length < 2 ^ 24 - 1 → (∀ a ∈ fp, ∀ o, H a = some o → F a = some o) →
    ∃ ds, RqA K F vs ds ∧ (∀ d ∈ ds, okL n d) ∧ (labs ds).map key = fp.map V.ref ∧ ds.length = ts.length
  | [], _, _, _, o, _, _, _ => by
    cases o
    exact ⟨[], .nil, fun _ m => (nomatch m), rfl, rfl⟩
  | t :: r, n, _, _, o, h, z, k => by
    cases o with
    | cons a b dj =>
      rw [List.length_append] at z
      obtain ⟨d, r1, o1, l1⟩ := OT.lab s t a (h t List.mem_cons_self) (by omega) fun x m => k x (List.mem_append_left _ m)
      obtain ⟨ds, r2, o2, l2, hl⟩ := OTs.lab s r b (fun x m => h x (List.mem_cons_of_mem _ m)) (by omega) fun x m => k x (List.mem_append_right _ m)
      refine ⟨d :: ds, .cons r1 r2, fun x m => ?_, ?_, by simp [hl]⟩
      · rcases List.mem_cons.mp m with e | m
        · rw [e]; exact o1
        · exact o2 x m
      · rw [labs, List.map_append, l1, l2, List.map_append]
end
theorem OTs.unsnocD {d : DD} : ∀ {ts : List SV} {vs : List V} {f : List Addr}, OTs K G H vs (ts ++ [.dat d]) f → ∃ ws w, vs = ws ++ [w] ∧ OTs K G H ws ts f ∧ Rq K G w d
  | [], _, _, h => by
    cases h with
    | cons a b dj =>
      cases b
      obtain ⟨r, rfl⟩ := a.dat_inv
      exact ⟨[], _, rfl, .nil, r⟩
  | t :: ts, _, _, h => by
    rw [List.cons_append] at h
    cases h with
    | cons a b dj =>
      obtain ⟨ws, w, rfl, o, r⟩ := OTs.unsnocD b
      exact ⟨_ :: ws, w, rfl, .cons a o dj, r⟩
theorem OTs.snocD {d : DD} {w : V} (r : Rq K G w d) {ts : List SV} {vs : List V} {f : List Addr} (h : OTs K G H vs ts f) : OTs K G H (vs ++ [w]) (ts ++ [.dat d]) f := by
  have := h.snoc (f2 := []) (.dat r) (fun _ _ z => nomatch z)
  simpa using this
mutual
theorem OT.size : ∀ (t : SV) {n k b : Nat} {v : V} {fp : List Addr}, OT K G H v (mk k b t) fp → okT n t → fp.length = cnt t
  | .dat d, _, _, _, _, _, o, _ => by
    rw [mk] at o
    obtain ⟨_, rfl⟩ := o.dat_inv
    rfl
  | .own ts, 0, _, _, _, _, _, h => h.elim
  | .own ts, n + 1, k, b, _, _, o, h => by
    rw [mk] at o
    obtain ⟨a, vs, f, rfl, rfl, e1, e2, os, na⟩ := o.own_inv
    have : f.length = cnts ts := by
      by_cases q : b < k
      · rw [if_pos q] at os
        obtain ⟨ws, w, _, o1, _⟩ := os.unsnocD
        exact OTs.size ts o1 h.2
      · rw [if_neg q, List.append_nil] at os
        exact OTs.size ts os h.2
    simp [cnt, this]
  | .ob _ _, 0, _, _, _, _, _, h => h.elim
  | .ob _ _, _ + 1, _, _, _, _, _, h => h.elim
theorem OTs.size : ∀ (ts : List SV) {n k b : Nat} {vs : List V} {fp : List Addr}, OTs K G H vs (mks k b ts) fp → (∀ t ∈ ts, okT n t) → fp.length = cnts ts
  | [], _, _, _, _, _, o, _ => by
    rw [mks] at o
    cases o
    rfl
  | t :: r, n, k, b, _, _, o, h => by
    rw [mks] at o
    cases o with
    | cons a b dj =>
      rw [List.length_append, OT.size t a (h t List.mem_cons_self), OTs.size r b fun x m => h x (List.mem_cons_of_mem _ m), cnts]
end
theorem OT.up {a : Addr} {o : HO} {t : SV} {v : V} {fp : List Addr} (h : OT K G H v t fp) (n : a ∉ fp) : OT K G (upd H a o) v t fp :=
  h.mono (Sub.refl G) (fun x m u e => by rw [upd_ne (show x ≠ a from fun z => n (by rw [← z]; exact m))]; exact e) fun x m => (h.here x m).2
theorem OTs.up {a : Addr} {o : HO} {t : List SV} {v : List V} {fp : List Addr} (h : OTs K G H v t fp) (n : a ∉ fp) : OTs K G (upd H a o) v t fp :=
  h.mono (Sub.refl G) (fun x m u e => by rw [upd_ne (show x ≠ a from fun z => n (by rw [← z]; exact m))]; exact e) fun x m => (h.here x m).2
mutual
theorem OT.mark {j : Nat} : ∀ (t : SV) {n b : Nat} {v : V} {fp : List Addr}, OT K G H v (mk j b t) fp → okT n t → b ≤ j → j < b + cnt t →
    ∃ a vs, fp[j - b]? = some a ∧ H a = some (.lst vs) ∧ vs.length < 2 ^ 24 ∧ OT K G (upd H a (.lst (vs ++ [.int j]))) v (mk (j + 1) b t) fp
  | .dat d, _, b, _, _, _, _, h1, h2 => by simp only [cnt] at h2; omega
  | .own ts, 0, _, _, _, _, h, _, _ => h.elim
  | .own ts, n + 1, b, _, _, o, h, h1, h2 => by
    rw [mk] at o
    obtain ⟨a, vs, f, rfl, rfl, e1, e2, os, na⟩ := o.own_inv
    simp only [cnt] at h2
    by_cases q : j = b
    · subst q
      rw [if_neg (Nat.lt_irrefl _), List.append_nil] at os
      refine ⟨a, vs, by simp, e1, ?_, ?_⟩
      · have := os.length
        have l : (mks j (j + 1) ts).length = ts.length := mks_len _ _ _
        have := h.1
        omega
      · rw [mk, mks_out (j + 1) ts (by omega), if_pos (by omega)]
        exact .own upd_same e2 ((os.up na).snocD (.int _)) na
    · have lt : b < j := by omega
      rw [if_pos lt] at os
      obtain ⟨ws, w, rfl, o1, r⟩ := os.unsnocD
      obtain ⟨x, xs, g1, g2, g3, g4⟩ := OTs.mark ts o1 h.2 (by omega) (by omega)
      have mem := List.mem_of_getElem? g1
      refine ⟨x, xs, ?_, g2, g3, ?_⟩
      · obtain ⟨m, rfl⟩ : ∃ m, j = b + 1 + m := ⟨j - (b + 1), by omega⟩
        rw [show b + 1 + m - b = m + 1 by omega, List.getElem?_cons_succ]
        rw [show b + 1 + m - (b + 1) = m by omega] at g1
        exact g1
      · rw [mk, if_pos (by omega)]
        exact .own (by rw [upd_ne (show a ≠ x from fun z => na (by rw [z]; exact mem))]; exact e1) e2 (g4.snocD r) na
  | .ob _ _, _, _, _, _, _, _, h1, h2 => by simp only [cnt] at h2; omega
theorem OTs.mark {j : Nat} : ∀ (ts : List SV) {n b : Nat} {vs : List V} {fp : List Addr}, OTs K G H vs (mks j b ts) fp → (∀ t ∈ ts, okT n t) → b ≤ j → j < b + cnts ts →
    ∃ a us, fp[j - b]? = some a ∧ H a = some (.lst us) ∧ us.length < 2 ^ 24 ∧ OTs K G (upd H a (.lst (us ++ [.int j]))) vs (mks (j + 1) b ts) fp
  | [], _, _, _, _, _, _, h1, h2 => by simp only [cnts] at h2; omega
  | t :: r, n, b, _, _, o, h, h1, h2 => by
    rw [mks] at o
    simp only [cnts] at h2
    cases o with
    | cons a c dj =>
      rename_i f1 f2
      have sz := OT.size t a (h t List.mem_cons_self)
      by_cases q : j < b + cnt t
      · obtain ⟨x, xs, g1, g2, g3, g4⟩ := OT.mark t a (h t List.mem_cons_self) h1 q
        have mem := List.mem_of_getElem? g1
        refine ⟨x, xs, ?_, g2, g3, ?_⟩
        · rw [List.getElem?_append_left (by omega)]; exact g1
        · rw [mks, mks_out (b + cnt t) r (by omega)]
          exact .cons g4 (c.up (dj x mem)) dj
      · obtain ⟨x, xs, g1, g2, g3, g4⟩ := OTs.mark r c (fun y m => h y (List.mem_cons_of_mem _ m)) (by omega) (by omega)
        have mem := List.mem_of_getElem? g1
        refine ⟨x, xs, ?_, g2, g3, ?_⟩
        · rw [List.getElem?_append_right (by omega), sz, show j - b - cnt t = j - (b + cnt t) by omega]; exact g1
        · rw [mks, mk_out b t (by omega)]
          exact .cons (a.up fun m => dj x m mem) g4 dj
end
end
end DL

namespace DL
open PySem PySem.Spec PyProof.Rows L2
def cMark : Ctr := fun as Q => ∃ t, as = [t] ∧ okT 8 t ∧ cnt t < 2 ^ 20 ∧ okR (markT t).data ∧ Q (.dat (.str (shD (markT t).data))) [markT t]
def rLenS (K : PySem.W.Frag) : List V → Hp → VK → Prop := fun xs H Q => ∃ p ys, xs = [.ref p] ∧ (SqL K H p ys ∨ SqT K H p ys) ∧ Q (.int ys.length) H
def tMark (K : PySem.W.Frag) (E : XK) : TS :=
  tSeq (tAsg (tCall (spD K (cLists 8)) [] E (tCons (tVar 0) tNil)) (gName 1))
    (tSeq (tFor (iRng1 (tCons (tCB (rLenS K) (tCons (tVar 1) tNil)) tNil)) (gName 2) (tDrop (tBM K "list" rAppend (tOp (rIx K) (tVar 1) (tVar 2)) (tCons (tVar 2) tNil))))
      (tRet (tCB (rRepr K) (tCons (tVar 0) tNil))))
section
variable {K : PySem.W.Frag} {G H : Hp}
theorem refs_of_at : ∀ {ds : List DD} {vs : List V}, RqA K G vs ds → (∀ d ∈ ds, ∃ v e, d = .at_ v e) → vs = ds.map key
  | [], _, .nil, _ => rfl
  | d :: r, _, .cons a b, h => by
    obtain ⟨v, e, rfl⟩ := h d List.mem_cons_self
    cases a
    rw [refs_of_at b fun x m => h x (List.mem_cons_of_mem _ m)]
    rfl
mutual
theorem labD_at : ∀ (d : DD), ∀ x ∈ labD d, ∃ v e, x = .at_ v e
  | .at_ v (.lst l), x, m => by
    rw [labD] at m
    rcases List.mem_cons.mp m with e | m
    · exact ⟨_, _, e⟩
    · exact labs_at l x m
  | .tup l, x, m => by
    rw [labD] at m
    exact labs_at l x m
  | .non, x, m => by simp [labD] at m
  | .bl _, x, m => by simp [labD] at m
  | .int _, x, m => by simp [labD] at m
  | .str _, x, m => by simp [labD] at m
  | .lst _, x, m => by simp [labD] at m
  | .obj _ _, x, m => by simp [labD] at m
  | .opq _, x, m => by simp [labD] at m
  | .klst _, x, m => by simp [labD] at m
  | .at_ _ .non, x, m => by simp [labD] at m
  | .at_ _ (.bl _), x, m => by simp [labD] at m
  | .at_ _ (.int _), x, m => by simp [labD] at m
  | .at_ _ (.str _), x, m => by simp [labD] at m
  | .at_ _ (.tup _), x, m => by simp [labD] at m
  | .at_ _ (.obj _ _), x, m => by simp [labD] at m
  | .at_ _ (.opq _), x, m => by simp [labD] at m
  | .at_ _ (.klst _), x, m => by simp [labD] at m
  | .at_ _ (.at_ _ _), x, m => by simp [labD] at m
theorem labs_at : ∀ (l : List DD), ∀ x ∈ labs l, ∃ v e, x = .at_ v e
  | [], x, m => by cases m
  | d :: r, x, m => by
    rw [labs] at m
    rcases List.mem_append.mp m with m | m
    · exact labD_at d x m
    · exact labs_at r x m
end
theorem mark_walk {E : XK} {vs : List V} {Q : VK} {E' : XK} (h : spD K cMark vs H Q E') : tMark K E { nx := fun _ H' => Q .non H', rt := Q } (vs.map some ++ [none, none]) H := by
  obtain ⟨G, as, fp, Qd, c, ⟨t, rfl, ht, hc, hr, hq⟩, kk⟩ := h
  obtain ⟨v, rfl⟩ : ∃ v, vs = [v] := by
    have := c.len
    match vs, this with
    | [v], _ => exact ⟨v, rfl⟩
  obtain ⟨v', ev, ot⟩ := c.slot 0 t rfl
  have : v = v' := by injection ev with z; injection z
  subst this
  have sz : (fp 0).length = cnt t := OT.size (k := 0) (b := 0) t (by rw [mk_zero]; exact ot) ht
  have nG : ∀ a ∈ fp 0, G a = none := fun a m => (ot.here a m).2
  have sg : Sub G (sealH G H (fp 0)) := sealH_sub nG
  obtain ⟨d, rd, okd, lk⟩ := OT.lab sg t ot ht (by omega) fun a m o e => by rw [sealH_in m]; exact e
  refine ⟨v, rfl, ?_⟩
  refine ⟨sealH G H (fp 0), [.dat d], fun _ => [], fun r _ => r = .own ((labD d).map .dat), ⟨rfl, fun a o e => ?_, fun i u hu => ?_, fun _ _ => rfl, fun _ _ _ z => nomatch z⟩, ⟨d, rfl, okd, rfl⟩, ?_⟩
  · by_cases m : a ∈ fp 0
    · rw [sealH_in m] at e; exact e
    · rw [sealH_out m] at e; exact c.sub a o e
  · cases i with
    | zero =>
      have : u = .dat d := by simpa using hu.symm
      subst this
      exact ⟨v, rfl, .dat rd⟩
    | succ i => simp at hu
  rintro r as' w G1 H1 fp1 fr c1 st in1 o1 d1 d2 rfl
  obtain ⟨L, us, f, rfl, rfl, hL, gL, os, nL⟩ := o1.own_inv
  have eus : us = (fp 0).map V.ref := by
    rw [← lk]
    have := os.dats
    exact refs_of_at this.1 (labD_at d)
  have hLn : H L = none := by
    rcases d2 L List.mem_cons_self with z | ⟨i, z⟩
    · exact z
    · cases z
  have keep1 : ∀ a o, H a = some o → H1 a = some o := fun a o e => st.keep a o (fun ⟨i, z⟩ => nomatch z) e
  have ot1 : OT K G H1 v t (fp 0) := ot.mono (Sub.refl G) (fun a m o e => keep1 a o e) nG
  refine ⟨.ref L, rfl, L, us, rfl, .inl (.inl (.inl hL)), ?_⟩
  refine ⟨_, rfl, by omega, by rw [eus]; simp; omega, ?_⟩
  have nlen : ((us.length : Int)).toNat = cnt t := by rw [eus]; simp [sz]
  rw [nlen]
  refine ⟨fun i m σ H' => m = cnt t - i ∧ i ≤ cnt t ∧ ∃ x2, σ = [some v, some (.ref L), x2] ∧ (∀ a o, a ∉ fp 0 → H a = some o → H' a = some o) ∧ OT K G H' v (mk i 0 t) (fp 0) ∧ H' L = some (.lst us), ⟨_, rfl, Nat.zero_le _, none, rfl, fun a o _ e => keep1 a o e, by rw [mk_zero]; exact ot1, hL⟩, ?_⟩
  rintro i m σ H2 ⟨rfl, hi, x2, rfl, kp, o2, hL2⟩
  by_cases lt : i < cnt t
  · refine .inr ⟨lt, fun σ' H' => i + 1 ≤ cnt t ∧ ∃ x2, σ' = [some v, some (.ref L), x2] ∧ (∀ a o, a ∉ fp 0 → H a = some o → H' a = some o) ∧ OT K G H' v (mk (i + 1) 0 t) (fp 0) ∧ H' L = some (.lst us), fun σ' H' q => ⟨cnt t - (i + 1), by omega, rfl, q⟩, ?_⟩
    rintro x H' ⟨rfl, rfl⟩
    have e0 : (0 : Int) + (i : Int) = (i : Int) := by omega
    rw [e0]
    obtain ⟨a, ws, g1, g2, g3, g4⟩ := OT.mark t o2 ht (Nat.zero_le _) (by omega)
    have mem := List.mem_of_getElem? g1
    have neL : L ≠ a := fun z => by
      obtain ⟨⟨o, e⟩, _⟩ := ot.here a mem
      rw [← z, hLn] at e; cases e
    have at1 : atI us (i : Int) = some (.ref a) := by
      have il : i < (fp 0).length := by omega
      rw [eus, atI_map, atI_nat il]
      rw [Nat.sub_zero, List.getElem?_eq_getElem il] at g1
      injection g1 with g1
      rw [g1]; rfl
    refine ⟨.ref L, rfl, .int i, rfl, .inl ⟨L, us, i, .ref a, rfl, rfl, .inl (.inl hL2), at1, ?_⟩⟩
    refine ⟨.inl ⟨rfl, _, .inl (.inl g2)⟩, .int i, rfl, a, ws, .int i, rfl, rfl, g2, g3, ?_⟩
    refine ⟨by omega, _, rfl, fun b o nb e => ?_, g4, by rw [upd_ne neL]; exact hL2⟩
    rw [upd_ne (show b ≠ a from fun z => nb (by rw [z]; exact mem))]
    exact kp b o nb e
  · have ei : i = cnt t := by omega
    subst ei
    refine .inl ⟨Nat.le_refl _, ?_⟩
    have sub2 : Sub G H2 := fun a o e => kp a o (fun m => by rw [nG a m] at e; cases e) (c.sub a o e)
    have rq : Rq K H2 v (markT t).data := o2.sealed sub2 fun _ _ _ e => e
    obtain ⟨h1, h2, h3, h4⟩ := hr
    refine ⟨v, rfl, v, _, rfl, rq.dp h1, h2, h3, h4, ?_⟩
    refine kk _ [markT t] _ G H2 fp [] ⟨rfl, sub2, fun i u hu => ?_, fun i hn => c.nil i fun u hu => ?_, c.dis⟩ ⟨Sub.refl G, fun a o n e => kp a o (fun m => n ⟨0, m⟩) e, fun a o _ _ g => g⟩ (fun a m => .inl m) (.dat (.str _)) (fun _ z => nomatch z) (fun _ z => nomatch z) hq
    · cases i with
      | zero =>
        have : u = markT t := by simpa using hu.symm
        subst this
        exact ⟨v, rfl, o2⟩
      | succ i => simp at hu
    · cases i with
      | zero => exact hn (markT t) rfl
      | succ i => simp at hu
end
section
variable {P : Program} {w : World} {K : PySem.W.Frag} {mg : Str → Option Value} {base : Heap} {f : Addr} {fd : FuncData} {x qual : Str} {params : Arguments} {body : List Stmt} {scope : Scope} {N ps : List Str} {k : Nat}
theorem mark_fn {Ex : XK} (F0 : FunD K x qual params body scope [] [] f fd) (S : FnScope N ps scope) (hN : N.length = 3) (hp : ps.length = 1)
    (hbody : ∀ (cdv : Value) (A : Around) (outer : List Env) (s : Shared) (H : Hp) (E : XK), RoomG k (A.deeper (envOfC qual scope s.heap.objs.size f cdv)) → PSs (cxOf CX0 P w K mg base N qual scope f cdv A outer s H E).nox body (tMark K Ex)) :
    FnG P w K mg base CX0 (k + 1) f fd ps (spD K cMark) := by
  obtain ⟨oc, od, dV, kV, doc, pm, an, cdv, ct, osl, rfl, lk, hcd, _, _⟩ := F0.ex
  have one : ∀ vs H Q E, spD K cMark vs H Q E → vs.length = 1 := fun vs H Q E ⟨G, as, fp, Qd, c, ⟨t, e, _⟩, _⟩ => by
    have := c.len
    rw [e] at this
    simpa using this
  refine fn_ofG lk hcd S (fun vs H Q E h => by rw [hp]; exact one vs H Q E h) fun A outer s H vs Q E hr h => ⟨_, (hbody cdv A outer s H E hr).nox, ?_⟩
  have e : L2.start N vs = vs.map some ++ [none, none] := by
    unfold L2.start
    rw [hN, one _ _ _ _ h]
    rfl
  rw [e]
  exact mark_walk h
end
end DL

namespace DL
open PySem PySem.Spec PyProof.Rows L2
/-! ### a tree's text, and the marked one's -/
mutual
def okS : SV → Bool
  | .dat d => d.pure && d.py.showable
  | .own ts => okSs ts
  | .ob _ _ => false
def okSs : List SV → Bool
  | [] => true
  | t :: r => okS t && okSs r
end
mutual
def szT : SV → Nat
  | .dat d => (shD d).length
  | .own ts => szTs ts + 3
  | .ob _ _ => 0
def szTs : List SV → Nat
  | [] => 0
  | t :: r => szT t + 2 + szTs r
end
mutual
def dpT : SV → Nat
  | .dat d => d.py.depth
  | .own ts => dpTs ts + 1
  | .ob _ _ => 0
def dpTs : List SV → Nat
  | [] => 0
  | t :: r => max (dpT t) (dpTs r)
end
mutual
theorem szT_ok : ∀ (t : SV), okS t = true → t.data.pure = true ∧ t.data.py.showable = true ∧ (shD t.data).length ≤ szT t ∧ t.data.py.depth ≤ dpT t
  | .dat d, h => by
    rw [okS] at h
    have := Bool.and_eq_true_iff.mp h
    simp only [data_dat]
    exact ⟨this.1, this.2, Nat.le_refl _, Nat.le_refl _⟩
  | .own ts, h => by
    rw [okS] at h
    obtain ⟨h1, h2, h3, h4, h5⟩ := szTs_ok ts h
    refine ⟨h1, h2, ?_, ?_⟩
    · have := listText_len_le (PyData.shownAll (DD.pys (SV.datas ts)))
      rw [h4] at this
      show (listText (PyData.shownAll (DD.pys (SV.datas ts)))).length ≤ szTs ts + 3
      omega
    · show PyData.depthAll (DD.pys (SV.datas ts)) + 1 ≤ dpTs ts + 1
      omega
  | .ob _ _, h => by rw [okS] at h; cases h
theorem szTs_ok : ∀ (ts : List SV), okSs ts = true → DD.pures (SV.datas ts) = true ∧ PyData.showableAll (DD.pys (SV.datas ts)) = true ∧ ((PyData.shownAll (DD.pys (SV.datas ts))).map (·.length)).sum + 2 * ts.length ≤ szTs ts ∧ (PyData.shownAll (DD.pys (SV.datas ts))).length = ts.length ∧ PyData.depthAll (DD.pys (SV.datas ts)) ≤ dpTs ts
  | [], _ => ⟨rfl, rfl, Nat.le_refl _, rfl, Nat.le_refl _⟩
  | t :: r, h => by
    rw [okSs] at h
    have h := Bool.and_eq_true_iff.mp h
    obtain ⟨a1, a2, a3, a4⟩ := szT_ok t h.1
    obtain ⟨b1, b2, b3, b4, b5⟩ := szTs_ok r h.2
    have a3' : (PyData.shown t.data.py).length ≤ szT t := a3
    refine ⟨by simp [SV.datas, DD.pures, a1, b1], by simp [SV.datas, DD.pys, PyData.showableAll, a2, b2], ?_, by simp [SV.datas, DD.pys, PyData.shownAll, b4], ?_⟩
    · simp only [SV.datas, DD.pys, PyData.shownAll, List.map_cons, List.sum_cons, List.length_cons, szTs]
      omega
    · simp only [SV.datas, DD.pys, PyData.depthAll, dpTs]
      omega
end
theorem okSs_app : ∀ (l m : List SV), okSs (l ++ m) = (okSs l && okSs m)
  | [], m => by simp [okSs]
  | t :: r, m => by rw [List.cons_append, okSs, okSs, okSs_app r m, Bool.and_assoc]
theorem szTs_app : ∀ (l m : List SV), szTs (l ++ m) = szTs l + szTs m
  | [], m => by simp [szTs]
  | t :: r, m => by rw [List.cons_append, szTs, szTs, szTs_app r m]; omega
theorem dpTs_app : ∀ (l m : List SV), dpTs (l ++ m) = max (dpTs l) (dpTs m)
  | [], m => by simp [dpTs]
  | t :: r, m => by rw [List.cons_append, dpTs, dpTs, dpTs_app r m]; omega
theorem int_rz {b : Nat} (h : b < 2 ^ 24) : Rz 1921 0 (.int b) := Rz.int (by
  unfold Sm
  simp only [Int.natAbs_natCast]
  exact Nat.lt_of_lt_of_le h (Nat.pow_le_pow_right (by decide) (by decide)))
mutual
theorem mk_ok (k : Nat) : ∀ (b : Nat) (t : SV), okS t = true → b + cnt t < 2 ^ 24 → okS (mk k b t) = true ∧ szT (mk k b t) ≤ szT t + cnt t * 1923 ∧ dpT (mk k b t) = dpT t
  | _, .dat d, h, _ => by rw [mk]; exact ⟨h, by omega, rfl⟩
  | b, .own ts, h, hb => by
    rw [okS] at h
    simp only [cnt] at hb
    obtain ⟨h1, h2, h3⟩ := mks_ok k (b + 1) ts h (by omega)
    rw [mk]
    have z := int_rz (b := b) (by omega)
    by_cases q : b < k
    · rw [if_pos q]
      refine ⟨?_, ?_, ?_⟩
      · rw [okS, okSs_app, h1]
        simp [okSs, okS, z.p, z.s]
      · simp only [szT, cnt]
        rw [szTs_app]
        have := z.l
        simp only [szTs, szT]
        omega
      · simp only [dpT]
        rw [dpTs_app, h3]
        have := z.e
        simp only [dpTs, dpT]
        omega
    · rw [if_neg q, List.append_nil]
      refine ⟨by rw [okS]; exact h1, ?_, by simp only [dpT, h3]⟩
      simp only [szT, cnt]
      omega
  | _, .ob _ _, h, _ => by rw [okS] at h; cases h
theorem mks_ok (k : Nat) : ∀ (b : Nat) (ts : List SV), okSs ts = true → b + cnts ts < 2 ^ 24 → okSs (mks k b ts) = true ∧ szTs (mks k b ts) ≤ szTs ts + cnts ts * 1923 ∧ dpTs (mks k b ts) = dpTs ts
  | _, [], _, _ => by rw [mks]; exact ⟨rfl, by omega, rfl⟩
  | b, t :: r, h, hb => by
    rw [okSs] at h
    have h := Bool.and_eq_true_iff.mp h
    simp only [cnts] at hb
    obtain ⟨a1, a2, a3⟩ := mk_ok k b t h.1 (by omega)
    obtain ⟨b1, b2, b3⟩ := mks_ok k (b + cnt t) r h.2 (by omega)
    rw [mks]
    refine ⟨by rw [okSs, a1, b1]; rfl, ?_, by rw [dpTs, dpTs, a3, b3]⟩
    simp only [szTs, cnts, Nat.add_mul]
    omega
end
/-- both texts can be told -/
theorem tree_okR {t : SV} (h : okS t = true) (hn : szT t + cnt t * 1923 ≤ 2 ^ 24) (hc : cnt t < 2 ^ 20) (hd : dpT t ≤ 60) : okR t.data ∧ okR (markT t).data := by
  obtain ⟨a1, a2, a3, a4⟩ := szT_ok t h
  obtain ⟨m1, m2, m3⟩ := mk_ok (cnt t) 0 t h (by omega)
  obtain ⟨b1, b2, b3, b4⟩ := szT_ok (markT t) m1
  unfold markT at *
  exact ⟨⟨a1, a2, by show _ ≤ 2 ^ 24; omega, by omega⟩, ⟨b1, b2, by show _ ≤ 2 ^ 24; omega, by omega⟩⟩
/-! rows of lists of ints and of fractions -/
inductive Itm where
  | L (l : List Int)
  | R (q : Rat)
def Itm.d : Itm → DD
  | .L l => dI l
  | .R q => rT q
def Itm.t : Itm → SV
  | .L l => oI l
  | .R q => .dat (rT q)
def Itm.ok : Itm → Prop
  | .L l => l.length ≤ 1000 ∧ ∀ c ∈ l, Sm 1900 c
  | .R q => Qb 1900 q
theorem cps_ints : ∀ l : List Int, cps (l.map .int) = tI l
  | [] => rfl
  | c :: l => by
    have := cps_ints l
    simp only [List.map_cons, cps, cp, this, tI]
theorem cp_dI (l : List Int) : cp (dI l) = oI l := by
  unfold dI
  rw [cp, cps_ints]
  rfl
theorem cp_rT (q : Rat) : cp (rT q) = .dat (rT q) := by
  simp [rT, cp, cps, SV.datas, SV.data]
theorem Itm.cp_eq (i : Itm) : cp i.d = i.t := by
  cases i with
  | L l => exact cp_dI l
  | R q => exact cp_rT q
theorem cp_items (is : List Itm) : cp (.lst (is.map Itm.d)) = .own (is.map Itm.t) := by
  rw [cp, cps_eq, List.map_map]
  congr 1
  exact List.map_congr_left fun i _ => i.cp_eq
theorem okSs_ints : ∀ {l : List Int}, (∀ c ∈ l, Sm 1900 c) → okSs (tI l) = true ∧ szTs (tI l) ≤ l.length * 1923 ∧ dpTs (tI l) = 0 ∧ cnts (tI l) = 0
  | [], _ => ⟨rfl, Nat.zero_le _, rfl, rfl⟩
  | c :: l, h => by
    obtain ⟨h1, h2, h3, h4⟩ := okSs_ints fun x m => h x (List.mem_cons_of_mem _ m)
    have z := Rz.int ((h c List.mem_cons_self).mono (show 1900 ≤ 1920 by decide))
    have e : tI (c :: l) = .dat (.int c) :: tI l := rfl
    have zl := z.l
    have ze := z.e
    rw [e]
    refine ⟨by simp [okSs, okS, z.p, z.s, h1], ?_, ?_, by simp [cnts, cnt, h4]⟩
    · simp only [szTs, szT, List.length_cons]
      omega
    · simp only [dpTs, dpT]
      omega
theorem Itm.facts {i : Itm} (h : i.ok) : okS i.t = true ∧ szT i.t ≤ 1923010 ∧ dpT i.t ≤ 2 ∧ cnt i.t ≤ 1 := by
  cases i with
  | L l =>
    obtain ⟨h1, h2, h3, h4⟩ := okSs_ints h.2
    have := h.1
    refine ⟨h1, ?_, ?_, ?_⟩
    · show szTs (tI l) + 3 ≤ _
      omega
    · show dpTs (tI l) + 1 ≤ 2
      omega
    · show cnts (tI l) + 1 ≤ 1
      omega
  | R q =>
    have z := Rz.rat (Qb.mono h (show 1900 ≤ 1920 by decide))
    have zl := z.l
    have ze := z.e
    refine ⟨by simp [Itm.t, okS, z.p, z.s], ?_, ?_, Nat.zero_le _⟩
    · show (shD (rT q)).length ≤ _
      omega
    · show (rT q).py.depth ≤ 2
      omega
theorem items_facts : ∀ {is : List Itm}, (∀ i ∈ is, i.ok) → okSs (is.map Itm.t) = true ∧ szTs (is.map Itm.t) ≤ is.length * 1923012 ∧ dpTs (is.map Itm.t) ≤ 2 ∧ cnts (is.map Itm.t) ≤ is.length
  | [], _ => ⟨rfl, Nat.zero_le _, Nat.zero_le _, Nat.zero_le _⟩
  | i :: is, h => by
    obtain ⟨a1, a2, a3, a4⟩ := Itm.facts (h i List.mem_cons_self)
    obtain ⟨b1, b2, b3, b4⟩ := items_facts fun x m => h x (List.mem_cons_of_mem _ m)
    refine ⟨by simp [okSs, a1, b1], ?_, ?_, ?_⟩
    · simp only [List.map_cons, szTs, List.length_cons]
      omega
    · simp only [List.map_cons, dpTs]
      omega
    · simp only [List.map_cons, cnts, List.length_cons]
      omega
theorem okC_ints {n : Nat} {l : List Int} (h : l.length ≤ 1000) : okC (n + 2) (dI l) := ⟨by simp; omega, fun d m => by
  obtain ⟨c, _, rfl⟩ := List.mem_map.mp m
  exact trivial⟩
theorem okC_rat {n : Nat} {q : Rat} : okC (n + 2) (rT q) := ⟨by simp, fun d m => by
  rcases List.mem_cons.mp m with rfl | m
  · exact trivial
  · have : d = .int q.den := by simpa using m
    subst this
    exact trivial⟩
theorem okT_ints {n : Nat} {l : List Int} (h : l.length ≤ 1000) : okT (n + 2) (oI l) := ⟨by simp; omega, fun d m => by
  obtain ⟨c, _, rfl⟩ := List.mem_map.mp m
  exact ⟨trivial, rfl⟩⟩
theorem okT_rat {n : Nat} {q : Rat} : okT (n + 2) (.dat (rT q)) := ⟨⟨by simp, by simp [labs, labD], fun d m => by
  rcases List.mem_cons.mp m with rfl | m
  · exact trivial
  · have : d = .int q.den := by simpa using m
    subst this
    exact trivial⟩, by simp [rT, labD, labs]⟩
/-- what the comparison of rows asks for -/
theorem items_right {is : List Itm} (h : ∀ i ∈ is, i.ok) (hn : is.length ≤ 8) : okC 8 (.lst (is.map Itm.d)) ∧ okT 8 (cp (.lst (is.map Itm.d))) ∧ cnt (cp (.lst (is.map Itm.d))) < 2 ^ 20 ∧ okR (.lst (is.map Itm.d)) ∧ okR (markT (cp (.lst (is.map Itm.d)))).data := by
  obtain ⟨a1, a2, a3, a4⟩ := items_facts h
  have e := cp_items is
  have key := tree_okR (t := cp (.lst (is.map Itm.d))) (by rw [e]; exact a1) (by rw [e]; simp only [szT, cnt]; omega) (by rw [e]; simp only [cnt]; omega) (by rw [e]; simp only [dpT]; omega)
  rw [cp_data] at key
  refine ⟨⟨by simp; omega, fun d m => ?_⟩, ?_, by rw [e]; simp only [cnt]; omega, key.1, key.2⟩
  · obtain ⟨i, hi, rfl⟩ := List.mem_map.mp m
    have := h i hi
    cases i with
    | L l => exact okC_ints this.1
    | R q => exact okC_rat
  · rw [e]
    refine ⟨by simp; omega, fun t m => ?_⟩
    obtain ⟨i, hi, rfl⟩ := List.mem_map.mp m
    have := h i hi
    cases i with
    | L l => exact okT_ints this.1
    | R q => exact okT_rat
theorem addP_comm : ∀ l m : List Int, addP l m = addP m l
  | [], [] => rfl
  | [], b :: m => rfl
  | a :: l, [] => rfl
  | a :: l, b :: m => by rw [addP, addP, addP_comm l m, Int.add_comm]
theorem rg_get {n i : Nat} {d : DD} (h : (rgD 0 1 n)[i]? = some d) : d = .int i ∧ i < n := by
  unfold rgD at h
  rw [List.getElem?_map] at h
  by_cases hi : i < n
  · rw [List.getElem?_range hi] at h
    simp at h
    exact ⟨h.symm, hi⟩
  · rw [List.getElem?_eq_none (by simpa using hi)] at h
    cases h
theorem evalR_qb2 {A B : Nat} {x : Rat} (hx : Qb B x) {l : List Int} (sl : ∀ c ∈ l, Sm A c) : Qb ((A + B + 1) * l.length + 1) (evalR l x) := by
  rw [← partsP_eval]
  obtain ⟨h1, _⟩ := hA_bd hx sl
  refine Qb.of ?_ ?_ (partsP_ne l x)
  · unfold partsP
    split
    · exact Nat.pow_pos (by decide)
    · exact h1.mono (by omega)
  · rw [partsP_den]
    refine (hx.d.pow _).mono ?_
    have := Nat.mul_le_mul (show B ≤ A + B + 1 by omega) (show l.length - 1 ≤ l.length by omega)
    omega
theorem mulG_one : ∀ (l pre : List Int), mulG [1] pre.length l (pre ++ List.replicate l.length 0) = pre ++ l
  | [], pre => by simp [mulG]
  | a :: l, pre => by
    have e : rowP a pre.length [1] (pre ++ List.replicate (a :: l).length 0) = (pre ++ [a]) ++ List.replicate l.length 0 := by
      simp [rowP, bump, List.replicate_succ, List.set_append]
    have ih := mulG_one l (pre ++ [a])
    rw [mulG, e]
    rw [List.length_append] at ih
    simp only [List.length_cons, List.length_nil, Nat.zero_add] at ih
    rw [ih]
    simp
theorem mulP_one (l : List Int) : mulP l [1] = l := by
  have := mulG_one l []
  unfold mulP
  simpa using this
theorem addP_nil (l : List Int) : addP l [] = l := by cases l <;> rfl
theorem nil_addP (l : List Int) : addP [] l = l := rfl
theorem PL.tail {l : List Int} (h : PL l) {n : Int} (h0 : 0 ≤ n) (h1 : n < 5) : PL (l.take 6 ++ [n - 2, 1]) := ⟨by simp; omega, app_bd (take_bd h.b) fun c m => by
  simp at m
  omega, by simp⟩
theorem Itm.ok_PL {l : List Int} (h : PL l) : Itm.ok (.L l) := ⟨by have := h.n; omega, h.b.sm (by decide)⟩
end DL

namespace DL
open PySem PySem.Spec PyProof.Rows L2
/-! ### a law's end -/
/-- the script: a list of the heap, or one of the written part -/
def scr (b : Bool) (ns : List Int) : DD := if b = true then .lst (ns.map .int) else .klst (ns.map .int)
@[simp] theorem scr_t (ns : List Int) : scr true ns = .lst (ns.map .int) := rfl
@[simp] theorem scr_f (ns : List Int) : scr false ns = .klst (ns.map .int) := rfl
def cLawS : Ctr := fun as Q => ∃ (ns : List Int) (b : Bool), as = [.dat (scr b ns)] ∧ (∀ z ∈ ns, Sm 1048576 z) ∧ ns.length ≤ 63 ∧ Q (.dat (.bl true)) as
theorem rq_ints {K : PySem.W.Frag} {G : Hp} : ∀ ns : List Int, RqA K G (ns.map V.int) (ns.map DD.int)
  | [] => .nil
  | i :: ns => .cons (.int i) (rq_ints ns)
section
variable {P : Program} {w : World} {K : PySem.W.Frag} {mg mb : Str → Option Value} {k : Nat} {fa a : Addr} {fd : FuncData} {x : Str} {F : Ctr}
/-- the promise at a heap that tracks the script at most -/
theorem at_script {H : Hp} {ns : List Int} (hF : ∀ as Q, cLawS as Q → F as Q) (hz : ∀ z ∈ ns, Builtin.Int.intBits z ≤ 1048576) (hn : ns.length ≤ 63) (hS : SqL K H a (ns.map V.int)) (E : XK) : spD K F [.ref a] H (fun v _ => v = .bl true) E := by
  have key : ∀ b, Rq K H (.ref a) (scr b ns) → spD K F [.ref a] H (fun v _ => v = .bl true) E := fun b r =>
    ⟨H, [.dat (scr b ns)], fun _ => [], fun r _ => r = .dat (.bl true), ⟨rfl, fun _ _ z => z, fun i t e => by
      cases i with
      | zero =>
        have : t = .dat (scr b ns) := by simpa using e.symm
        subst this
        exact ⟨.ref a, rfl, .dat r⟩
      | succ i => simp at e, fun _ _ => rfl, fun _ _ _ z => nomatch z⟩, hF _ _ ⟨ns, b, rfl, fun z m => Sm.of_bits (hz z m), hn, rfl⟩, fun r as' v G' H' fp' fr _ _ _ o _ _ e => by
        subst e
        exact o.dat_inv.1.bl_inv⟩
  rcases hS with h | h
  · exact key true (.lst h (rq_ints ns))
  · exact key false (.klst (.inr h) (rq_ints ns))
theorem call_at {H : Hp} {s1 : Shared} (KX : K.In s1.heap) (hns : s1.heap.Ns mainGlobals mg) (hb : s1.heap.Ns builtinsNs mb) (hbb : ∀ y : Str, y ≠ "__name__" → mb y = bootBuiltins y) (hlim : s1.heap.NoLimit) (hg : s1.gens = #[])
    (hl : ∀ (o : Obj), s1.heap.get? a = some o → ∀ es ep, o.data ≠ .dict es ep) (hr : RoomG k callerA)
    (HF : ∀ base : Heap, K.In base → base.Ns mainGlobals mg → FnG P w K mg base CX0 k fa fd [x] (spD K F)) (hbind : ∀ (s : Shared) (u : Value), BindsTo s fd ⟨[u], []⟩ [(x, u)])
    (hO : ∀ b, H b = none ∨ b = a ∧ K.lookup a = none ∧ ∃ o xs, H b = some (.frz o (.lst xs))) (hok : HOk P w H s1.heap) (hsp : spD K F [.ref a] H (fun v _ => v = .bl true) fun _ _ _ => False) :
    codeAny (model P w) callerA (.call (.ref fa) ⟨[.ref a], []⟩) (fun r s' => r = .ok (.ret (.bool true)) ∧ OldK s1.heap s'.heap ∧ s'.os = s1.os ∧ AllBare s'.gens) s1 := by
  have away : ∀ {b : Addr} {o : Obj}, s1.heap.get? b = some o → H b = none → (hidT s1.heap H).get? b = some o := fun e z => hidT_get e z
  have dictN : ∀ {b : Addr} {o : Obj} {es : Array DictEntry} {ep : Nat}, s1.heap.get? b = some o → o.data = .dict es ep → H b = none := fun {b o es ep} e d => by
    rcases hO b with z | ⟨rfl, _, _⟩
    · exact z
    · exact absurd d (hl o e es ep)
  have names : ∀ {b : Addr} {m : Str → Option Value}, s1.heap.Ns b m → (hidT s1.heap H).Ns b m := fun {b m} ⟨o, es, ep, e, d, r⟩ => ⟨o, es, ep, away e (dictN e d), d, r⟩
  have inK : K.In (hidT s1.heap H) := fun b o e => away (KX b o e) (by
    rcases hO b with z | ⟨rfl, z, _⟩
    · exact z
    · rw [z] at e; cases e)
  obtain ⟨mc, l1, l2⟩ := hlim
  have mod : Mod K mg (hidT s1.heap H) := ⟨inK, names hns, ⟨mb, names hb, hbb⟩, mc, names l1, l2⟩
  have env : Env0 P w K mg (hidT s1.heap H) callerA [] s1 H := ⟨rfl, mod, fun b o e => of_hidT e, Nat.le_of_eq (hidT_size _ _), trivial, fun b m => (nomatch m), hok, .of_eq hg⟩
  have run := (HF _ inK (names hns)).run callerA [] s1 H ⟨[.ref a], []⟩ [.ref a] [.ref a] _ _ hr env (hbind s1 (.ref a)) (.cons rfl .nil) hsp
  refine codeAny_mono run fun r s2 q => ?_
  match r, q with
  | .ok (.ret u), ⟨v, H2, os, bare, un, ok2, rel, e⟩ =>
    have e' : v = .bl true := e
    subst e'
    cases rel
    refine ⟨rfl, OldK.of_keep fun b o e => ?_, os, bare⟩
    rcases hO b with z | ⟨rfl, _, ob, xs, z⟩
    · exact un.keep b o e z (fun m => nomatch m) (fun m => nomatch m)
    · obtain ⟨e1, _⟩ := hok _ _ z
      obtain ⟨e2, _⟩ := ok2 _ _ (un.frzs _ ob _ z)
      rw [e] at e1; cases e1
      exact e2
  | .ok .next, q => exact q.elim
  | .ok .brk, q => exact q.elim
  | .ok .cont, q => exact q.elim
  | .error e, q => exact q.elim
theorem fn_void {base : Heap} {ps : List Str} {f : Addr} {C : Ctr} (h : ∀ as Q, ¬ C as Q) : FnG P w K mg base CX0 k f fd ps (spD K C) :=
  ⟨fun vs H Q E ⟨G, as, fp, Qd, c, hC, _⟩ => (h _ _ hC).elim, fun A outer s H args us vs Q E _ _ _ _ ⟨G, as, fp, Qd, c, hC, _⟩ => (h _ _ hC).elim⟩
theorem walk_ofG {l : PySem.W.OpenLaw} {n : Nat} {q : Program} {loose : List Str} {XP : (Str → Option Value) → Heap → Prop} {YP : World → Heap → Prop} {d : DefRec} (hn : l.most = some n) (hn2 : n ≤ 63) (hdf : d.params.defaults = []) (hr : RoomG k callerA)
    (HF : ∀ (w : World) (mg : Str → Option Value) (fa : Addr) (h : Heap), YP w h → h.Ns mainGlobals mg → mg d.name = some (.ref fa) →
      ∃ (K : PySem.W.Frag) (fd : FuncData) (F : Ctr), K.In h ∧ (∀ (s : Shared) (u : Value), BindsTo s fd ⟨[u], []⟩ [(x, u)]) ∧ (∀ as Q, cLawS as Q → F as Q) ∧
        ∀ base : Heap, K.In base → base.Ns mainGlobals mg → FnG l.prog w K mg base CX0 k fa fd [x] (spD K F)) :
    PySem.W.WalkO q loose XP YP l.row.toRowW d [] (fun f vs => PySem.call f vs) := by
  refine Att.attach_callB hn hdf fun w s0 s1 mg mb fa o pm cd doc a vs ns G Y ho hd hcd hmg hobj hints hlen hbits hg => ?_
  obtain ⟨K, fd, F, KX, hb, hF, HG⟩ := HF w mg fa _ Y G.T.g hmg
  have rv := vals_ints hints
  have lenV := hints.length
  have size : ns.length ≤ sizeLine := Nat.le_trans hlen (Nat.le_trans hn2 (by decide))
  have nod : ∀ o : Obj, s1.heap.get? a = some o → ∀ es ep, o.data ≠ .dict es ep := fun o e es ep z => by
    rw [hobj] at e; cases e
    cases (show Data.seq vs.toArray _ = Data.dict es ep from z)
  cases hk : K.lookup a with
  | some u =>
    have e := KX a u hk
    rw [hobj] at e; cases e
    refine call_at (H := fun _ => none) KX G.T.g G.T.b G.T.builtins G.T.nolimit hg nod hr HG hb (fun b => .inl rfl) (fun b u z => by cases z) ?_
    exact at_script hF hbits (Nat.le_trans hlen hn2) (.inr ⟨_, vs.toArray, _, hk, rfl, rfl, rfl, by rw [List.size_toArray, lenV]; exact size, by simpa using rv⟩) _
  | none =>
    refine call_at (H := fun b => if b = a then some (.frz { cls := .type "list", data := .seq vs.toArray } (.lst (ns.map V.int))) else none) KX G.T.g G.T.b G.T.builtins G.T.nolimit hg nod hr HG hb (fun b => ?_) (fun b u z => ?_) ?_
    · by_cases q : b = a
      · exact .inr ⟨q, hk, _, _, if_pos q⟩
      · exact .inl (if_neg q)
    · dsimp only at z
      by_cases q : b = a
      · rw [if_pos q] at z
        cases z
        subst q
        exact ⟨hobj, by rw [List.length_map]; exact size, vs, _, rv, hobj⟩
      · rw [if_neg q] at z; cases z
    · exact at_script hF hbits (Nat.le_trans hlen hn2) (.inl (.inr ⟨_, if_pos rfl⟩)) _
end
end DL

namespace DL
open PySem PySem.Spec PyProof.Rows L2
/-! a, b = x, y with a cell among the names: a tuple is made and taken apart, the trees stay owned -/
theorem s_un2 {X : Cx} {io : List Nat} {i j : Nat} {x y : Str} {a b : Expr} {fs : FSs} {px py pt pos : Pos} {kt k2 : Nat} {pt2 : Pos} (hc : X.calm = true) (hN : X.N.Nodup) (h : PDs' X io [a, b] fs) (hi : X.N[i]? = some x := by rfl) (hj : X.N[j]? = some y := by rfl)
    (hx : Loc X.env.scope x := by first | exact Or.inl rfl | exact Or.inr rfl) (hy : Loc X.env.scope y := by first | exact Or.inl rfl | exact Or.inr rfl)
    (fx : X.fn x = true ∨ X.env.scope.names.lookup x = some .local := by first | exact .inl rfl | exact .inr rfl) (fy : X.fn y = true ∨ X.env.scope.names.lookup y = some .local := by first | exact .inl rfl | exact .inr rfl)
    (hs : swapsWithSole [.Tuple [.Name x px, .Name y py] kt pt] (.Tuple [a, b] k2 pt2) pos.line X.env = pure false := by rfl) (hw : swappedStores [.Tuple [.Name x px, .Name y py] kt pt] (.Tuple [a, b] k2 pt2) X.env = pure none := by rfl)
    (h1 : (assignEach [.Tuple [.Name x px, .Name y py] kt pt] X.env).map (·.2) = [assign (.Tuple [.Name x px, .Name y py] kt pt) X.env] := by rfl)
    (c1 : (assignEach [.Name x px, .Name y py] X.env).map (·.2) = assign (.Name x px) X.env :: (assignEach [.Name y py] X.env).map (·.2) := by rfl) (c2 : (assignEach [.Name y py] X.env).map (·.2) = assign (.Name y py) X.env :: (assignEach [] X.env).map (·.2) := by rfl)
    (hn : (assignEach [.Name x px, .Name y py] X.env).length = 2 := by rfl) (hst : (assignEach [.Name x px, .Name y py] X.env).findIdx? (·.1) = none := by rfl) :
    PDs X io (.Assign [.Tuple [.Name x px, .Name y py] kt pt] (.Tuple [a, b] k2 pt2) pos) (fPar io i j fs) := by
  obtain ⟨ta, a1, a2⟩ := h
  refine ⟨_, ps_asg (pe_tup a1) (pg_tup hc (pgs_cons (pg_name hN hi hx fx) (pgs_cons (pg_name hN hj hy fy) pgs_nil c2) c1) hn hst) hs hw h1, fun B G H σ ρ fp Dd Dh hB R hf s => ?_⟩
  refine a2 B G H σ ρ fp _ _ hB R hf fun ts ρ1 vs G1 H1 fp1 fr n os t1 t2 ⟨t, u, et, hi', hj', q⟩ => ?_
  subst et
  refine ⟨by rw [os.length]; show 2 ≤ sizeLine; decide, fun p hp => ?_⟩
  obtain ⟨v, w, f1, f2, rfl, o1, o2, d12, in1, in2⟩ := os.two
  have n2 := n.trans (Nxt.laid n.rp (o := .tup [v, w]) hp)
  have hb := R.base t2
  have up : ∀ {z : V} {e : SV} {f : List Addr}, OT X.K G1 H1 z e f → OT X.K G1 (upd H1 p (.tup [v, w])) z e f := fun o => o.mono (Sub.refl _) (fun b m e g => by
    rw [upd_ne (show b ≠ p from fun z => by rw [z, hp] at g; cases g)]; exact g) fun b m => (o.here b m).2
  have R1 := n2.rp.put (i := i) (by rw [hB]; exact hi') (up o1) (fun c m => t1 c (in1 c m)) (fun c m => hb c (in1 c m))
  have R2 := R1.put (i := j) (by rw [hB]; exact hj') (up o2) (out_put (fun c m => t1 c (in2 c m)) d12) (fun c m => hb c (in2 c m))
  exact ⟨p, [v, w], rfl, .inl (.inl upd_same), rfl, v, [w], rfl, w, [], rfl, rfl, s.nx _ _ _ _ _ R2 q⟩
end DL

namespace DL
open PySem PySem.Spec PyProof.Rows L2
/-! ### sum, max of a list of ints -/
theorem RqA.ints_inv {K : PySem.W.Frag} {G : Hp} : ∀ {ns : List Int} {vs : List V}, RqA K G vs (ns.map DD.int) → vs = ns.map V.int
  | [], _, h => by cases h; rfl
  | n :: ns, _, h => by
    cases h with
    | cons a b => rw [a.int_inv, RqA.ints_inv b]; rfl
@[simp] def oSum : OpN := fun ds P => ∃ ns : List Int, ds = [.lst (ns.map .int)] ∧ P (.int ns.sum)
theorem p_sum {X : Cx} {io : List Nat} {p pos : Pos} {e : Expr} {fos : FOs} (hc : X.calm = true) (hm : X.mg "sum" = none) (ha : PDos X io [e] fos) (hg : Gl X "sum" := by rfl) (he : starEach [e] X.env = (false, eval e X.env) :: starEach [] X.env := by rfl) : PDv X io (.Call (.Name "sum" p) [e] [] pos) (fCB oSum fos) :=
  p_cb (cr_sum hc) (fun H xs ds P Q hx h k => by
    obtain ⟨ns, rfl, q⟩ := h
    obtain ⟨x, rfl, r⟩ := hx.one
    obtain ⟨a, ys, rfl, h, r⟩ := r.lst_inv
    have := r.ints_inv
    subst this
    exact ⟨a, ns, rfl, .inl h, k _ _ q (.int _)⟩) hm (by decide +kernel) ha hg (by decide) (by decide) he
/-! ### an expression that only looks: all that is held stands still meanwhile -/
def frzR (ρ : Rho) : Rho := ρ.map (Option.map fun t => SV.dat t.data)
@[simp] theorem frzR_nil : frzR [] = [] := rfl
@[simp] theorem frzR_some (t : SV) (ρ : Rho) : frzR (some t :: ρ) = some (.dat t.data) :: frzR ρ := rfl
@[simp] theorem frzR_none (ρ : Rho) : frzR (none :: ρ) = none :: frzR ρ := rfl
def litD : DD → Bool
  | .non => true
  | .bl _ => true
  | .int _ => true
  | .str _ => true
  | _ => false
mutual
def flatT : SV → Bool
  | .dat d => litD d
  | .own ts => flatTs ts
  | .ob _ _ => false
def flatTs : List SV → Bool
  | [] => true
  | t :: r => flatT t && flatTs r
end
theorem flatTs_all : ∀ {ts : List SV}, (∀ t ∈ ts, flatT t = true) → flatTs ts = true
  | [], _ => rfl
  | t :: r, h => by rw [flatTs, h t List.mem_cons_self, flatTs_all fun x m => h x (List.mem_cons_of_mem _ m)]; rfl
theorem Rq.lit {K : PySem.W.Frag} {G F : Hp} {v : V} {d : DD} (h : Rq K G v d) (l : litD d = true) : Rq K F v d := by
  cases h with
  | non => exact .non
  | bl b => exact .bl b
  | int i => exact .int i
  | str x => exact .str x
  | _ => cases l
mutual
theorem OT.flat {K : PySem.W.Frag} {G F H : Hp} : ∀ {v : V} {t : SV} {fp : List Addr}, OT K G H v t fp → flatT t = true → (∀ a ∈ fp, F a = none) → OT K F H v t fp
  | _, _, _, .dat r, l, _ => .dat (r.lit l)
  | _, _, _, .own h g ts n, l, z => .own h (z _ List.mem_cons_self) (OTs.flat ts l fun a m => z a (List.mem_cons_of_mem _ m)) n
  | _, _, _, .ob .., l, _ => by cases l
theorem OTs.flat {K : PySem.W.Frag} {G F H : Hp} : ∀ {v : List V} {t : List SV} {fp : List Addr}, OTs K G H v t fp → flatTs t = true → (∀ a ∈ fp, F a = none) → OTs K F H v t fp
  | _, _, _, .nil, _, _ => .nil
  | _, _, _, .cons a b d, l, z => by
    rw [flatTs, Bool.and_eq_true] at l
    exact .cons (OT.flat a l.1 fun x m => z x (List.mem_append_left _ m)) (OTs.flat b l.2 fun x m => z x (List.mem_append_right _ m)) d
end
@[simp] def fFrz (fe : FE) : FE := fun ρ Q => fe (frzR ρ) fun r ρ' => ρ' = frzR ρ ∧ flatT r = true ∧ Q r ρ
theorem frz_get {ρ : Rho} {i : Nat} {t : SV} (h : (frzR ρ)[i]? = some (some t)) : ∃ u, ρ[i]? = some (some u) ∧ t = .dat u.data := by
  unfold frzR at h
  rw [List.getElem?_map] at h
  cases e : ρ[i]? with
  | none => rw [e] at h; cases h
  | some z =>
    rw [e] at h
    cases z with
    | none => simp at h
    | some u => simp at h; exact ⟨u, rfl, h.symm⟩
theorem frz_dat {ρ : Rho} {i : Nat} {u : SV} (h : ρ[i]? = some (some u)) : (frzR ρ)[i]? = some (some (.dat u.data)) := by
  unfold frzR
  rw [List.getElem?_map, h]
  rfl
theorem e_frz {X : Cx} {io : List Nat} {e : Expr} {fe : FE} (h : PDe X io e fe) : PDe X io e (fFrz fe) := by
  obtain ⟨te, h1, h2⟩ := h
  refine ⟨te, h1, fun B G H σ ρ fp Qd Q hB R hf k => ?_⟩
  classical
  let S : Hp := fun a => if In fp a then H a else G a
  have s1 : ∀ a, In fp a → S a = H a := fun a m => if_pos m
  have s2 : ∀ a, ¬ In fp a → S a = G a := fun a m => if_neg m
  have gs : Sub G S := fun a o e => by
    by_cases m : In fp a
    · rw [(R.co.here m).2] at e; cases e
    · rw [s2 a m]; exact e
  have sh : Sub S H := fun a o e => by
    by_cases m : In fp a
    · rw [s1 a m] at e; exact e
    · rw [s2 a m] at e; exact R.co.sub a o e
  have noIn : ∀ a, ¬ In (fun _ => ([] : List Addr)) a := fun a ⟨_, m⟩ => by cases m
  have co : Co X.K S H σ (frzR ρ) (fun _ => []) := ⟨by rw [R.co.len]; simp [frzR], sh, fun i t e => by
    obtain ⟨u, e1, rfl⟩ := frz_get e
    obtain ⟨v, e2, ot⟩ := R.co.slot i u e1
    exact ⟨v, e2, .dat (ot.sealed gs fun a m o q => by rw [s1 a ⟨i, m⟩]; exact q)⟩, fun _ _ => rfl, fun _ _ _ m => nomatch m⟩
  let B2 : Bs := ⟨B.vs, B.as, B.io, S, H, fun _ => [], S⟩
  have R2 : Rp X.K B2 S H σ (frzR ρ) (fun _ => []) := ⟨co, Stp.refl _ _, fun a m => absurd m (noIn a), fun i m => by
    obtain ⟨v, t, e1, e2, e3⟩ := R.io i m
    exact ⟨v, _, e1, e2, frz_dat e3⟩, Sub.refl _⟩
  refine h2 B2 S H σ (frzR ρ) (fun _ => []) _ Q hB R2 hf fun r ρ' v G' H' fp' fr n ot t1 t2 ⟨er, fl, q⟩ => ?_
  let G2 : Hp := fun a => if In fp a then none else G' a
  have g1 : ∀ a, In fp a → G2 a = none := fun a m => if_pos m
  have g2 : ∀ a, ¬ In fp a → G2 a = G' a := fun a m => if_neg m
  have fresh : ∀ a ∈ fr, H a = none := fun a m => (t2 a m).elim id fun z => absurd z (noIn a)
  have outF : ∀ a ∈ fr, ¬ In fp a := fun a m z => by
    obtain ⟨⟨o, e⟩, _⟩ := R.co.here z
    rw [fresh a m] at e; cases e
  have keep : ∀ a o, H a = some o → H' a = some o := fun a o e => n.st.keep a o (noIn a) e
  have gg : Sub G G2 := fun a o e => by
    have m : ¬ In fp a := fun m => by rw [(R.co.here m).2] at e; cases e
    rw [g2 a m]
    exact n.st.ex a o (gs a o e)
  have sub2 : Sub G2 H' := fun a o e => by
    by_cases m : In fp a
    · rw [g1 a m] at e; cases e
    · rw [g2 a m] at e; exact n.rp.co.sub a o e
  have st : Stp (In fp) G H G2 H' := ⟨gg, fun a o _ e => keep a o e, fun a o m e g => by
    rw [g2 a m]
    exact n.st.hid a o (noIn a) e (by rw [s2 a m]; exact g)⟩
  refine k r ρ v G2 H' fp fr ⟨⟨R.co.grow gg (fun a _ o e => keep a o e) g1 sub2, R.stp.trans st R.own, R.own, R.io, R.lo.trans gg⟩, st, fun _ m => .inl m⟩
    (ot.flat fl fun a m => by rw [g2 a (outF a m)]; exact (ot.here a m).2) outF (fun a m => .inl (fresh a m)) q
@[simp] theorem flat_oI (l : List Int) : flatT (oI l) = true := flatTs_all fun t m => by
  obtain ⟨a, _, rfl⟩ := List.mem_map.mp m
  rfl
end DL

namespace DL
open PySem PySem.Spec PyProof.Rows L2
/-! ### rests: the plain law -/
def gcdF (g : Nat) (l : List Int) : Nat := l.foldl (fun g c => Nat.gcd g c.natAbs) g
def gcdL (l : List Int) : Nat := gcdF 0 l
theorem gcdF_dvd : ∀ (l : List Int) (g : Nat), gcdF g l ∣ g ∧ ∀ c ∈ l, gcdF g l ∣ c.natAbs
  | [], g => ⟨Nat.dvd_refl g, fun _ m => nomatch m⟩
  | a :: l, g => by
    obtain ⟨h1, h2⟩ := gcdF_dvd l (Nat.gcd g a.natAbs)
    refine ⟨Nat.dvd_trans h1 (Nat.gcd_dvd_left _ _), fun c m => ?_⟩
    rcases List.mem_cons.mp m with rfl | m
    · exact Nat.dvd_trans h1 (Nat.gcd_dvd_right _ _)
    · exact h2 c m
theorem gcdL_dvd {l : List Int} {c : Int} (h : c ∈ l) : (gcdL l : Int) ∣ c := Int.ofNat_dvd_left.mpr ((gcdF_dvd l 0).2 c h)
theorem gcdL_pos {l : List Int} {c : Int} (h : c ∈ l) (z : c ≠ 0) : 0 < gcdL l := by
  have := (gcdF_dvd l 0).2 c h
  exact Nat.pos_of_dvd_of_pos this (by omega)
theorem gcdF_mul (n : Nat) : ∀ (l : List Int) (g : Nat), gcdF (n * g) (l.map fun c => (n : Int) * c) = n * gcdF g l
  | [], g => rfl
  | a :: l, g => by
    show gcdF (Nat.gcd (n * g) ((n : Int) * a).natAbs) (l.map fun c => (n : Int) * c) = n * gcdF (Nat.gcd g a.natAbs) l
    rw [Int.natAbs_mul, Int.natAbs_natCast, Nat.gcd_mul_left, gcdF_mul n l]
theorem gcdL_mul (n : Nat) (l : List Int) : gcdL (l.map fun c => (n : Int) * c) = n * gcdL l := by
  have := gcdF_mul n l 0
  simpa [gcdL] using this
/-- without a common divisor -/
def prim (l : List Int) : List Int := l.map fun c => c.fdiv (gcdL l)
theorem prim_scale {a b : List Int} {m n : Nat} (hm : 0 < m) (hn : 0 < n) (h : a.map (fun c => (n : Int) * c) = b.map fun c => (m : Int) * c) : prim a = prim b := by
  have hg : n * gcdL a = m * gcdL b := by rw [← gcdL_mul, ← gcdL_mul, h]
  have hl : a.length = b.length := by simpa using congrArg List.length h
  unfold prim
  apply List.ext_getElem
  · simp [hl]
  · intro i h1 h2
    simp only [List.length_map] at h1 h2
    simp only [List.getElem_map]
    have e : (n : Int) * a[i] = (m : Int) * b[i] := by
      have := congrArg (fun l => l[i]?) h
      simpa [h1, h2] using this
    obtain ⟨x, hx⟩ := gcdL_dvd (List.getElem_mem h1)
    obtain ⟨y, hy⟩ := gcdL_dvd (List.getElem_mem h2)
    have hgI : (n : Int) * (gcdL a : Int) = (m : Int) * (gcdL b : Int) := by exact_mod_cast hg
    generalize a[i] = u at *
    generalize b[i] = v at *
    generalize (gcdL a : Int) = ga at *
    generalize (gcdL b : Int) = gb at *
    have mz : (m : Int) ≠ 0 := by omega
    have nz : (n : Int) ≠ 0 := by omega
    subst hx hy
    by_cases z : gb = 0
    · subst z
      have : ga = 0 := by
        rcases Int.mul_eq_zero.mp (hgI.trans (Int.mul_zero _)) with q | q
        · exact absurd q nz
        · exact q
      subst this
      simp
    · have za : ga ≠ 0 := fun q => by
        subst q
        have := hgI.symm.trans (Int.mul_zero _)
        rcases Int.mul_eq_zero.mp this with q | q
        · exact mz q
        · exact z q
      have xy : x = y := by
        have e2 : (m : Int) * gb * x = (m : Int) * gb * y := by
          calc (m : Int) * gb * x = (n : Int) * ga * x := by rw [hgI]
            _ = (n : Int) * (ga * x) := Int.mul_assoc ..
            _ = (m : Int) * (gb * y) := e
            _ = (m : Int) * gb * y := (Int.mul_assoc ..).symm
        exact Int.eq_of_mul_eq_mul_left (Int.mul_ne_zero mz z) e2
      subst xy
      rw [Int.mul_fdiv_cancel_left _ za, Int.mul_fdiv_cancel_left _ z]
theorem prim_len (l : List Int) : (prim l).length = l.length := by simp [prim]
theorem prim_getD (l : List Int) (i : Nat) : (gcdL l : Int) * (prim l).getD i 0 = l.getD i 0 := by
  unfold prim
  simp only [List.getD_eq_getElem?_getD, List.getElem?_map]
  by_cases h : i < l.length
  · rw [List.getElem?_eq_getElem h]
    simp only [Option.map_some, Option.getD_some]
    obtain ⟨x, hx⟩ := gcdL_dvd (List.getElem_mem h)
    by_cases z : (gcdL l : Int) = 0
    · rw [z] at hx ⊢
      omega
    · rw [hx, Int.mul_fdiv_cancel_left _ z]
  · rw [List.getElem?_eq_none (by omega)]
    simp
theorem trim_getD : ∀ (l : List Int) (i : Nat), (trim l).getD i 0 = l.getD i 0
  | [], _ => rfl
  | c :: l, i => by
    have ih := trim_getD l
    rw [trim]
    split
    · rename_i h
      rw [h] at ih
      split
      · rename_i z
        subst z
        cases i with
        | zero => rfl
        | succ i => simpa using ih i
      · cases i with
        | zero => rfl
        | succ i => simpa using ih i
    · cases i with
      | zero => rfl
      | succ i => simpa using ih i
/-- two lists of ints, the one a positive multiple of the other -/
theorem prim_uniq {f h : List Int} {q : Rat} (hq : 0 < q) (zf : f.getLast? ≠ some 0) (zh : h.getLast? ≠ some 0) (e : ∀ i : Nat, ((f.getD i 0 : Int) : Rat) = q * ((h.getD i 0 : Int) : Rat)) : prim f = prim h := by
  have key : ∀ i : Nat, (q.den : Int) * f.getD i 0 = q.num * h.getD i 0 := fun i => by
    have e1 := e i
    have d := rat_dn q
    have : ((q.den : Int) : Rat) * ((f.getD i 0 : Int) : Rat) = ((q.num : Int) : Rat) * ((h.getD i 0 : Int) : Rat) := by
      rw [e1, ← d, ← Rat.mul_assoc]
      rfl
    exact_mod_cast this
  have np : 0 < q.num := by
    have := (Rat.lt_iff 0 q).mp hq
    simpa using this
  have dp : 0 < (q.den : Int) := by have := q.den_pos; omega
  have last : ∀ {l : List Int}, l ≠ [] → l.getLast? ≠ some 0 → l.getD (l.length - 1) 0 ≠ 0 := fun {l} hl z y => z (by
    rw [List.getLast?_eq_getElem?]
    have hp := List.length_pos_iff.mpr hl
    rw [List.getD_eq_getElem?_getD, List.getElem?_eq_getElem (by omega)] at y
    rw [List.getElem?_eq_getElem (by omega)]
    simpa using y)
  have out : ∀ {l : List Int} {i : Nat}, l.length ≤ i → l.getD i 0 = 0 := fun {l i} hi => by
    rw [List.getD_eq_getElem?_getD, List.getElem?_eq_none hi]; rfl
  have len : f.length = h.length := by
    rcases Nat.lt_trichotomy f.length h.length with l | l | l
    · exfalso
      have hn : h ≠ [] := fun z => by subst z; simp at l
      have k := key (h.length - 1)
      rw [out (by omega), Int.mul_zero] at k
      rcases Int.mul_eq_zero.mp k.symm with z | z
      · omega
      · exact last hn zh z
    · exact l
    · exfalso
      have hn : f ≠ [] := fun z => by subst z; simp at l
      have k := key (f.length - 1)
      rw [out (l := h) (by omega), Int.mul_zero] at k
      rcases Int.mul_eq_zero.mp k with z | z
      · omega
      · exact last hn zf z
  refine prim_scale (m := q.num.toNat) (n := q.den) (by omega) q.den_pos ?_
  apply List.ext_getElem
  · simp [len]
  · intro i h1 h2
    simp only [List.length_map] at h1 h2
    simp only [List.getElem_map]
    have k := key i
    rw [List.getD_eq_getElem?_getD, List.getD_eq_getElem?_getD, List.getElem?_eq_getElem h1, List.getElem?_eq_getElem h2] at k
    have : ((q.num.toNat : Nat) : Int) = q.num := by omega
    simp only [Option.getD_some] at k
    exact k.trans (congrArg (· * h[i]) this.symm)
/-- f is F times a positive fraction -/
def Rel (f : List Int) (F : List Rat) : Prop := ∃ c : Rat, 0 < c ∧ ∀ i : Nat, ((f.getD i 0 : Int) : Rat) = c * F.getD i 0
theorem Rel.prim {f : List Int} {F : List Rat} (h : Rel f F) (hg : 0 < gcdL f) : Rel (prim f) F := by
  obtain ⟨c, hc, e⟩ := h
  have g0 : (0 : Rat) < ((gcdL f : Int) : Rat) := by exact_mod_cast hg
  refine ⟨c * ((gcdL f : Int) : Rat)⁻¹, Rat.mul_pos hc (Rat.inv_pos.mpr g0), fun i => ?_⟩
  have e1 := e i
  rw [← prim_getD f i, Rat.intCast_mul] at e1
  have gz : ((gcdL f : Int) : Rat) ≠ 0 := fun z => by rw [z] at g0; exact Rat.lt_irrefl g0
  generalize ((gcdL f : Int) : Rat) = g at *
  generalize (((DL.prim f).getD i 0 : Int) : Rat) = x at *
  generalize F.getD i 0 = y at *
  grind
theorem Rel.trim {f : List Int} {F : List Rat} (h : Rel f F) : Rel (trim f) F := by
  obtain ⟨c, hc, e⟩ := h
  exact ⟨c, hc, fun i => by rw [trim_getD]; exact e i⟩
def shiftD {α : Type} (z : α) (k : Nat) (l : List α) : List α := List.replicate k z ++ l
theorem shiftD_get {α : Type} (z : α) (k : Nat) (l : List α) (i : Nat) : (shiftD z k l).getD i z = if i < k then z else l.getD (i - k) z := by
  unfold shiftD
  simp only [List.getD_eq_getElem?_getD]
  split
  · rename_i h
    rw [List.getElem?_append_left (by simpa using h), List.getElem?_replicate]
    simp [h]
  · rename_i h
    rw [List.getElem?_append_right (by simp; omega)]
    simp
def lastI (l : List Int) : Int := l.getD (l.length - 1) 0
def lastQ (l : List Rat) : Rat := l.getD (l.length - 1) 0
/-- a turn of the program, the divisor not yet taken out -/
def pRaw (o f : List Int) : List Int := List.zipWith (fun a b => (lastI o).natAbs * a - b) f (shiftD 0 (f.length - o.length) (o.map fun b => (if 0 < lastI o then lastI f else -lastI f) * b))
def pStep (o f : List Int) : List Int := prim (trim (pRaw o f))
/-- a turn of the law -/
def lStep (o : List Int) (F : List Rat) : List Rat := (List.zipWith (· + ·) F (shiftD 0 (F.length - o.length) (o.map fun b : Int => lastQ F * (1 / (lastI o : Rat)) * (0 - (b : Rat))))).dropLast
theorem getD_zip {α β γ : Type} (g : α → β → γ) (x : α) (y : β) (z : γ) (hz : g x y = z) : ∀ (l : List α) (m : List β), l.length = m.length → ∀ i : Nat, (List.zipWith g l m).getD i z = g (l.getD i x) (m.getD i y)
  | [], [], _, i => by simp [hz]
  | [], _ :: _, h, _ => by simp at h
  | _ :: _, [], h, _ => by simp at h
  | a :: l, b :: m, h, 0 => by simp
  | a :: l, b :: m, h, i + 1 => by
    have := getD_zip g x y z hz l m (by simpa using h) i
    simpa using this
theorem getD_map {α β : Type} (g : α → β) (x : α) (z : β) (hz : g x = z) (l : List α) (i : Nat) : (l.map g).getD i z = g (l.getD i x) := by
  simp only [List.getD_eq_getElem?_getD, List.getElem?_map]
  cases l[i]? <;> simp [hz]
theorem getD_drop {α : Type} (z : α) (l : List α) (i : Nat) : l.dropLast.getD i z = if i < l.length - 1 then l.getD i z else z := by
  simp only [List.getD_eq_getElem?_getD, List.getElem?_dropLast]
  split <;> rfl
theorem pRaw_get {o f : List Int} (h : o.length ≤ f.length) (i : Nat) : (pRaw o f).getD i 0 = (lastI o).natAbs * f.getD i 0 - if i < f.length - o.length then 0 else (if 0 < lastI o then lastI f else -lastI f) * o.getD (i - (f.length - o.length)) 0 := by
  unfold pRaw
  rw [getD_zip _ 0 0 0 (by simp) _ _ (by simp [shiftD]; omega), shiftD_get, getD_map _ 0 0 (by simp)]
theorem lStep_get {o : List Int} {F : List Rat} (h : o.length ≤ F.length) (i : Nat) : (lStep o F).getD i 0 = if i < F.length - 1 then F.getD i 0 + (if i < F.length - o.length then 0 else lastQ F * (1 / (lastI o : Rat)) * (0 - ((o.getD (i - (F.length - o.length)) 0 : Int) : Rat))) else 0 := by
  unfold lStep
  rw [getD_drop, getD_zip _ 0 0 0 (Rat.add_zero 0) _ _ (by simp [shiftD]; omega), shiftD_get, getD_map _ 0 0 (by rw [Rat.intCast_zero]; grind)]
  have : (List.zipWith (fun x1 x2 : Rat => x1 + x2) F (shiftD 0 (F.length - o.length) (o.map fun b : Int => lastQ F * (1 / (lastI o : Rat)) * (0 - (b : Rat))))).length = F.length := by simp [shiftD]; omega
  rw [this]
theorem getD_out {α : Type} {z : α} {l : List α} {i : Nat} (h : l.length ≤ i) : l.getD i z = z := by
  rw [List.getD_eq_getElem?_getD, List.getElem?_eq_none h]; rfl
/-- the top number goes -/
theorem pRaw_top {o f : List Int} (ho : o ≠ []) (h : o.length ≤ f.length) {i : Nat} (hi : f.length - 1 ≤ i) : (pRaw o f).getD i 0 = 0 := by
  have p := List.length_pos_iff.mpr ho
  rw [pRaw_get h, if_neg (by omega)]
  rcases Nat.lt_or_ge i f.length with l | l
  · have e1 : i = f.length - 1 := by omega
    have e2 : i - (f.length - o.length) = o.length - 1 := by omega
    rw [e2, e1]
    show ((lastI o).natAbs : Int) * lastI f - (if 0 < lastI o then lastI f else -lastI f) * lastI o = 0
    split
    · rename_i q
      have : ((lastI o).natAbs : Int) = lastI o := by omega
      rw [this, Int.mul_comm]; omega
    · rename_i q
      have : ((lastI o).natAbs : Int) = -lastI o := by omega
      rw [this]
      grind
  · rw [getD_out l, getD_out (l := o) (by omega)]
    simp
theorem pRaw_len {o f : List Int} (h : o.length ≤ f.length) : (pRaw o f).length = f.length := by simp [pRaw, shiftD]; omega
theorem trim_short : ∀ {l : List Int} {n : Nat}, (∀ i, n ≤ i → l.getD i 0 = 0) → (trim l).length ≤ n
  | [], _, _ => Nat.zero_le _
  | c :: l, 0, h => by
    have e : trim l = [] := List.eq_nil_of_length_eq_zero (Nat.le_zero.mp (trim_short (n := 0) fun i _ => by simpa using h (i + 1) (Nat.zero_le _)))
    have c0 : c = 0 := by simpa using h 0 (Nat.zero_le _)
    rw [trim, e]
    simp [c0]
  | c :: l, n + 1, h => by
    have ih := trim_short (l := l) (n := n) fun i hi => by simpa using h (i + 1) (by omega)
    rw [trim]
    split
    · split <;> simp
    · simp only [List.length_cons]; omega
theorem pStep_len {o f : List Int} (ho : o ≠ []) (h : o.length ≤ f.length) : (pStep o f).length ≤ f.length - 1 := by
  unfold pStep
  rw [prim_len]
  exact trim_short fun i hi => pRaw_top ho h hi
theorem step_rel {o f : List Int} {F : List Rat} (ho : o ≠ []) (hl : lastI o ≠ 0) (h : o.length ≤ F.length) (e : f.length = F.length) (r : Rel f F) : Rel (pRaw o f) (lStep o F) := by
  obtain ⟨c, hc, hr⟩ := r
  have p := List.length_pos_iff.mpr ho
  have ab : 0 < (lastI o).natAbs := by omega
  have abR : (0 : Rat) < (((lastI o).natAbs : Int) : Rat) := by exact_mod_cast ab
  have lz : (lastI o : Rat) ≠ 0 := by exact_mod_cast hl
  have top : ((lastI f : Int) : Rat) = c * lastQ F := by
    unfold lastI lastQ
    rw [e]
    exact hr _
  refine ⟨(((lastI o).natAbs : Int) : Rat) * c, Rat.mul_pos abR hc, fun i => ?_⟩
  rw [lStep_get h]
  by_cases hi : i < F.length - 1
  · rw [if_pos hi, pRaw_get (by omega), e]
    have ri := hr i
    by_cases hk : i < F.length - o.length
    · rw [if_pos hk, if_pos hk, Int.sub_zero, Rat.intCast_mul, ri]
      grind
    · rw [if_neg hk, if_neg hk, Rat.intCast_sub, Rat.intCast_mul, Rat.intCast_mul, ri]
      generalize ((o.getD (i - (F.length - o.length)) 0 : Int) : Rat) = b at *
      generalize F.getD i 0 = y at *
      generalize lastQ F = t at *
      by_cases q : 0 < lastI o
      · have en : (((lastI o).natAbs : Int) : Rat) = (lastI o : Rat) := by
          have : ((lastI o).natAbs : Int) = lastI o := by omega
          rw [this]
        rw [if_pos q, top, en]
        generalize (lastI o : Rat) = l at *
        grind
      · have en : (((lastI o).natAbs : Int) : Rat) = -(lastI o : Rat) := by
          have : ((lastI o).natAbs : Int) = -lastI o := by omega
          rw [this, Rat.intCast_neg]
        rw [if_neg q, Rat.intCast_neg, top, en]
        generalize (lastI o : Rat) = l at *
        grind
  · rw [if_neg hi, pRaw_top ho (by omega) (by omega)]
    simp
theorem lStep_len {o : List Int} {F : List Rat} (h : o.length ≤ F.length) : (lStep o F).length = F.length - 1 := by simp [lStep, shiftD]; omega
/-- a zero at the top is dropped -/
theorem drop_rel {o f : List Int} {F : List Rat} (h : o.length ≤ F.length) (hf : f.length < F.length) (r : Rel f F) : Rel f (lStep o F) := by
  obtain ⟨c, hc, hr⟩ := r
  have t0 : lastQ F = 0 := by
    have := hr (F.length - 1)
    rw [getD_out (by omega)] at this
    unfold lastQ
    rcases Rat.mul_eq_zero.mp (show c * F.getD (F.length - 1) 0 = 0 by rw [← this]; rfl) with z | z
    · rw [z] at hc; exact absurd hc Rat.lt_irrefl
    · exact z
  refine ⟨c, hc, fun i => ?_⟩
  rw [lStep_get h]
  by_cases hi : i < F.length - 1
  · rw [if_pos hi, t0, hr i]
    split <;> grind
  · rw [if_neg hi, getD_out (by omega)]
    simp
theorem rel_uniq {f h : List Int} {F : List Rat} (r : Rel f F) (s : Rel h F) (zf : f.getLast? ≠ some 0) (zh : h.getLast? ≠ some 0) : prim f = prim h := by
  obtain ⟨c, hc, e1⟩ := r
  obtain ⟨d, hd, e2⟩ := s
  refine prim_uniq (q := c * d⁻¹) (Rat.mul_pos hc (Rat.inv_pos.mpr hd)) zf zh fun i => ?_
  have dz : d ≠ 0 := fun z => by rw [z] at hd; exact Rat.lt_irrefl hd
  rw [e1 i, e2 i]
  generalize F.getD i 0 = y
  grind
theorem last_ne {l : List Int} (h : l ≠ []) (z : l.getLast? ≠ some 0) : lastI l ≠ 0 := fun y => z (by
  rw [List.getLast?_eq_getElem?]
  have hp := List.length_pos_iff.mpr h
  unfold lastI at y
  rw [List.getD_eq_getElem?_getD, List.getElem?_eq_getElem (by omega)] at y
  rw [List.getElem?_eq_getElem (by omega)]
  simpa using y)
theorem gcdL_trim {l : List Int} (h : l ≠ []) (z : l.getLast? ≠ some 0) : 0 < gcdL l := by
  have n := last_ne h z
  have hp := List.length_pos_iff.mpr h
  refine gcdL_pos (c := l[l.length - 1]) (List.getElem_mem (by omega)) ?_
  unfold lastI at n
  rw [List.getD_eq_getElem?_getD, List.getElem?_eq_getElem (by omega)] at n
  simpa using n
theorem prim_last {l : List Int} (z : l.getLast? ≠ some 0) : (prim l).getLast? ≠ some 0 := by
  by_cases h : l = []
  · subst h; simp [prim]
  · intro y
    apply last_ne h z
    have hp := List.length_pos_iff.mpr h
    rw [List.getLast?_eq_getElem?, prim_len] at y
    have e := prim_getD l (l.length - 1)
    rw [List.getD_eq_getElem?_getD, y] at e
    unfold lastI
    rw [← e]
    simp
theorem Rel.pt {f : List Int} {F : List Rat} (h : Rel f F) : Rel (DL.prim (DL.trim f)) F := by
  have h1 := h.trim
  by_cases e : DL.trim f = []
  · rw [e] at h1 ⊢
    exact h1
  · exact h1.prim (gcdL_trim e (trim_last f))
theorem prim_idem {l : List Int} (z : l.getLast? ≠ some 0) : prim (prim l) = prim l := by
  by_cases h : l = []
  · subst h; rfl
  · have g := gcdL_trim h z
    have g0 : (0 : Rat) < ((gcdL l : Int) : Rat) := by exact_mod_cast g
    have gz : ((gcdL l : Int) : Rat) ≠ 0 := fun y => by rw [y] at g0; exact Rat.lt_irrefl g0
    refine prim_uniq (q := ((gcdL l : Int) : Rat)⁻¹) (Rat.inv_pos.mpr g0) (prim_last z) z fun i => ?_
    have e := prim_getD l i
    rw [← e, Rat.intCast_mul]
    generalize ((gcdL l : Int) : Rat) = g at *
    generalize (((prim l).getD i 0 : Int) : Rat) = x at *
    grind
/-- what the program keeps true of its list -/
structure Pok (f : List Int) : Prop where
  z : f.getLast? ≠ some 0
  p : prim f = f
theorem Pok.of {l : List Int} (z : l.getLast? ≠ some 0) : Pok (prim l) := ⟨prim_last z, prim_idem z⟩
def pLoop (o : List Int) : Nat → List Int → List Int
  | 0, f => f
  | n + 1, f => if o.length ≤ f.length then pLoop o n (pStep o f) else f
def lLoop (o : List Int) : Nat → List Rat → List Rat
  | 0, F => F
  | n + 1, F => lLoop o n (if o.length ≤ F.length then lStep o F else F)
theorem lLoop_small {o : List Int} : ∀ (n : Nat) (F : List Rat), F.length < o.length → lLoop o n F = F
  | 0, _, _ => rfl
  | n + 1, F, h => by rw [lLoop, if_neg (by omega), lLoop_small n F h]
theorem pLoop_small {o : List Int} : ∀ (n : Nat) (f : List Int), f.length < o.length → pLoop o n f = f
  | 0, _, _ => rfl
  | n + 1, f, h => by rw [pLoop, if_neg (by omega)]
theorem pLoop_fuel {o : List Int} (ho : o ≠ []) : ∀ (n m : Nat) (f : List Int), f.length ≤ n → f.length ≤ m → pLoop o n f = pLoop o m f := by
  have p := List.length_pos_iff.mpr ho
  intro n
  induction n with
  | zero =>
    intro m f h1 h2
    have : f.length < o.length := by omega
    rw [pLoop_small _ _ this, pLoop_small _ _ this]
  | succ n ih =>
    intro m f h1 h2
    by_cases q : o.length ≤ f.length
    · cases m with
      | zero => omega
      | succ m =>
        have := pStep_len ho q
        rw [pLoop, if_pos q, pLoop, if_pos q]
        exact ih m _ (by omega) (by omega)
    · rw [pLoop_small _ _ (by omega), pLoop_small _ _ (by omega)]
theorem loops {o : List Int} (ho : o ≠ []) (hl : lastI o ≠ 0) : ∀ (m n : Nat) (f : List Int) (F : List Rat), Rel f F → Pok f → f.length ≤ F.length → f.length ≤ n → F.length ≤ m → Rel (pLoop o n f) (lLoop o m F) ∧ Pok (pLoop o n f) := by
  have p := List.length_pos_iff.mpr ho
  intro m
  induction m with
  | zero =>
    intro n f F r k h1 h2 h3
    rw [pLoop_small _ _ (by omega)]
    exact ⟨r, k⟩
  | succ m ih =>
    intro n f F r k h1 h2 h3
    by_cases q : o.length ≤ F.length
    · rw [lLoop, if_pos q]
      have ll := lStep_len q
      by_cases e : f.length = F.length
      · cases n with
        | zero => omega
        | succ n =>
          have pl := pStep_len ho (show o.length ≤ f.length by omega)
          rw [pLoop, if_pos (by omega)]
          exact ih n _ _ (step_rel ho hl q e r).pt (Pok.of (trim_last _)) (by omega) (by omega) (by omega)
      · exact ih n f _ (drop_rel q (by omega) r) k (by omega) h2 (by omega)
    · rw [lLoop_small _ _ (by omega), pLoop_small _ _ (by omega)]
      exact ⟨r, k⟩
theorem rel_self (l : List Int) : Rel l (l.map fun i : Int => (i : Rat)) := ⟨1, by decide +kernel, fun i => by
  rw [getD_map (fun i : Int => (i : Rat)) 0 0 Rat.intCast_zero, Rat.one_mul]⟩
/-- THE PLAIN LAW: the program's rest is the law's -/
theorem rest_law {l o h : List Int} (zl : l.getLast? ≠ some 0) (ho : o ≠ []) (zo : o.getLast? ≠ some 0) (r : Rel h (lLoop o l.length (l.map fun i : Int => (i : Rat)))) : pLoop o l.length (prim l) = prim (trim h) := by
  have r0 : Rel (prim l) (l.map fun i : Int => (i : Rat)) := by
    by_cases e : l = []
    · subst e; exact rel_self []
    · exact (rel_self l).prim (gcdL_trim e zl)
  obtain ⟨r1, k⟩ := loops ho (last_ne ho zo) l.length l.length (prim l) _ r0 (Pok.of zl) (by simp [prim]) (by simp [prim]) (by simp)
  rw [← k.p]
  exact rel_uniq r1 r.trim k.z (trim_last h)
def divG (g : Int) : DD → SV
  | .int c => .dat (.int (c.fdiv g))
  | _ => .dat .non
@[simp] theorem divG_int {g c : Int} : divG g (.int c) = .dat (.int (c.fdiv g)) := rfl
theorem divG_all (l : List Int) : (l.map DD.int).map (divG (gcdL l)) = tI (prim l) := by simp [tI, prim]
theorem gcdF_snoc (g : Nat) (l : List Int) (c : Int) : gcdF g (l ++ [c]) = Nat.gcd (gcdF g l) c.natAbs := by simp [gcdF]
theorem gcdF_take {l : List Int} {i : Nat} {c : Int} (h : l[i]? = some c) : gcdF 0 (l.take (i + 1)) = Int.gcd (gcdF 0 (l.take i) : Int) c := by
  rw [List.take_add_one, h, Option.toList_some, gcdF_snoc]
  rfl
theorem gcdL_sm {k : Nat} {l : List Int} {c : Int} (h : c ∈ l) (hc : Sm k c) (z : c ≠ 0) : Sm k (gcdL l : Int) := by
  refine hc.le ?_
  simp only [Int.natAbs_natCast]
  exact Nat.le_of_dvd (by omega) ((gcdF_dvd l 0).2 c h)
theorem gcdL_some {l : List Int} (h : 0 < gcdL l) : ∃ c ∈ l, c ≠ 0 := by
  by_cases q : ∃ c ∈ l, c ≠ 0
  · exact q
  · exfalso
    have all : ∀ (l : List Int), (∀ c ∈ l, c = 0) → gcdF 0 l = 0 := by
      intro l
      induction l with
      | nil => intro _; rfl
      | cons a l ih =>
        intro hz
        have a0 := hz a List.mem_cons_self
        subst a0
        exact ih fun c m => hz c (List.mem_cons_of_mem _ m)
    have := all l fun c m => by
      by_cases z : c = 0
      · exact z
      · exact absurd ⟨c, m, z⟩ q
    unfold gcdL at h
    omega
/-- while, the test apart from the body -/
theorem wh {c : FT} {f : FS} {D : DEnds} {ρ : Rho} (W T : Nat → Rho → Prop) (h0 : ∃ m, W m ρ) (h1 : ∀ m ρ, W m ρ → ∀ g : Rho → Prop, (∀ ρ, T m ρ → g ρ) → c ρ fun b ρ1 => if b = true then g ρ1 else D.nx ρ1)
    (h2 : ∀ m ρ, T m ρ → f { D with nx := fun ρ' => ∃ m', m' < m ∧ W m' ρ', ct := fun ρ' => ∃ m', m' < m ∧ W m' ρ', bk := D.nx } ρ) : fWhile c f D ρ := ⟨W, h0, fun m ρ w => h1 m ρ w _ (h2 m)⟩
def mulI (t : Int) : DD → SV
  | .int c => .dat (.int (t * c))
  | _ => .dat .non
@[simp] theorem mulI_int {t c : Int} : mulI t (.int c) = .dat (.int (t * c)) := rfl
theorem mulI_all (t : Int) (l : List Int) : (l.map DD.int).map (mulI t) = tI (l.map fun c => t * c) := by simp [tI]
def subG (a : Int) : DD → SV
  | .tup [.int x, .int y] => .dat (.int (a * x - y))
  | _ => .dat .non
@[simp] theorem subG_two {a x y : Int} : subG a (.tup [.int x, .int y]) = .dat (.int (a * x - y)) := rfl
theorem subG_all (a : Int) : ∀ l m : List Int, ((l.zip m).map fun p => DD.tup [.int p.1, .int p.2]).map (subG a) = tI (List.zipWith (fun x y => a * x - y) l m)
  | [], _ => rfl
  | _ :: _, [] => rfl
  | x :: l, y :: m => by
    have ih := subG_all a l m
    simp only [List.zip_cons_cons, List.map_cons, List.zipWith_cons_cons, ih, subG_two]
    rfl
theorem tI_lastI {l : List Int} (h : l ≠ []) : atI (tI l) (-1) = some (.dat (.int (lastI l))) := by
  have p := List.length_pos_iff.mpr h
  rw [tI_end, List.getLast?_eq_getElem?]
  unfold lastI
  rw [List.getD_eq_getElem?_getD, List.getElem?_eq_getElem (by omega)]
  rfl
theorem halt {f : FS} {D : DEnds} {ρ : Rho} (h : ∀ g : Rho → Prop, (∀ ρ, D.nx ρ → g ρ) → f { D with nx := g } ρ) : f D ρ := h D.nx fun _ z => z
/-- the law's fractions have a common denominator -/
def Fb (L : Int) (s : Nat) (F : List Rat) : Prop := ∀ j : Nat, ∃ n : Int, Sm (60 + 61 * s) n ∧ F.getD j 0 = Rat.divInt n (L ^ s)
theorem Fb.qb {L : Int} {s : Nat} {F : List Rat} (h : Fb L s F) (l0 : L ≠ 0) (sl : Sm 60 L) (hs : s ≤ 30) (j : Nat) : Qb 1900 (F.getD j 0) := by
  obtain ⟨n, sn, e⟩ := h j
  rw [e]
  exact Qb.of (sn.mono (by omega)) ((sl.pow s).mono (by omega)) (Int.pow_ne_zero l0)
theorem Fb.start {L : Int} {l : List Int} (h : ∀ c ∈ l, Sm 60 c) : Fb L 0 (l.map fun i : Int => (i : Rat)) := fun j => by
  refine ⟨l.getD j 0, ?_, ?_⟩
  · rw [List.getD_eq_getElem?_getD]
    by_cases hk : j < l.length
    · rw [List.getElem?_eq_getElem hk]; exact (h _ (List.getElem_mem hk)).mono (by omega)
    · rw [List.getElem?_eq_none (by omega)]
      exact smc (by simp)
  · rw [getD_map (fun i : Int => (i : Rat)) 0 0 Rat.intCast_zero, Rat.divInt_eq_div, Int.pow_zero, Rat.intCast_one]
    grind
theorem Fb.step {o : List Int} {s : Nat} {F : List Rat} (h : Fb (lastI o) s F) (l0 : lastI o ≠ 0) (bo : ∀ c ∈ o, Sm 60 c) (sl : Sm 60 (lastI o)) (hk : o.length ≤ F.length) : Fb (lastI o) (s + 1) (lStep o F) := fun j => by
  have lz : (lastI o : Rat) ≠ 0 := by exact_mod_cast l0
  have pz : (((lastI o) ^ s : Int) : Rat) ≠ 0 := by exact_mod_cast Int.pow_ne_zero l0
  obtain ⟨n, sn, en⟩ := h j
  obtain ⟨t, st, et⟩ := h (F.length - 1)
  have eT : lastQ F = Rat.divInt t (lastI o ^ s) := et
  rw [lStep_get hk, eT, en]
  have gm : ∀ k : Nat, Sm 60 (o.getD k 0) := fun k => by
    rw [List.getD_eq_getElem?_getD]
    by_cases hk : k < o.length
    · rw [List.getElem?_eq_getElem hk]; exact bo _ (List.getElem_mem hk)
    · rw [List.getElem?_eq_none (by omega)]
      exact smc (by simp)
  rw [Rat.divInt_eq_div, Rat.divInt_eq_div]
  by_cases h1 : j < F.length - 1
  · rw [if_pos h1]
    by_cases h2 : j < F.length - o.length
    · rw [if_pos h2]
      refine ⟨lastI o * n, (sl.mul sn).mono (by omega), ?_⟩
      rw [Rat.divInt_eq_div, Int.pow_succ, Rat.intCast_mul, Rat.intCast_mul]
      generalize (((lastI o) ^ s : Int) : Rat) = w at *
      generalize (lastI o : Rat) = l at *
      grind
    · rw [if_neg h2]
      refine ⟨lastI o * n - t * o.getD (j - (F.length - o.length)) 0, (Sm.sub (sl.mul sn) (st.mul (gm _))).mono (by omega), ?_⟩
      rw [Rat.divInt_eq_div, Int.pow_succ, Rat.intCast_mul, Rat.intCast_sub, Rat.intCast_mul, Rat.intCast_mul]
      generalize (((lastI o) ^ s : Int) : Rat) = w at *
      generalize (lastI o : Rat) = l at *
      generalize ((o.getD (j - (F.length - o.length)) 0 : Int) : Rat) = b at *
      grind
  · rw [if_neg h1]
    refine ⟨0, smc (by simp; exact Nat.pow_pos (by decide)), ?_⟩
    rw [Rat.divInt_eq_div, Rat.intCast_zero, Rat.div_def, Rat.zero_mul]
/-- fractions as data -/
def fracG : DD → SV
  | .int c => .dat (rT (c : Rat))
  | _ => .dat .non
@[simp] theorem fracG_int {c : Int} : fracG (.int c) = .dat (rT (c : Rat)) := rfl
theorem fracG_all (l : List Int) : (l.map DD.int).map fracG = ((l.map fun i : Int => (i : Rat)).map rT).map SV.dat := by simp
def scaleG (x : Rat) : DD → SV
  | .int c => .dat (rT (x * (0 - (c : Rat))))
  | _ => .dat .non
@[simp] theorem scaleG_int {x : Rat} {c : Int} : scaleG x (.int c) = .dat (rT (x * (0 - (c : Rat)))) := rfl
theorem scaleG_all (x : Rat) (o : List Int) : (o.map DD.int).map (scaleG x) = ((o.map fun b : Int => x * (0 - (b : Rat))).map rT).map SV.dat := by simp
theorem ratsD_at {F : List Rat} {k : Nat} (h : k < F.length) : atI (F.map rT) (k : Int) = some (rT (F.getD k 0)) := by
  rw [atI_map, atI_nat h, List.getD_eq_getElem?_getD, List.getElem?_eq_getElem h]
  rfl
theorem ratsD_last {F : List Rat} (h : F ≠ []) : atI (F.map rT) (-1) = some (rT (lastQ F)) := by
  have p := List.length_pos_iff.mpr h
  rw [atI_map, atI_end, List.getLast?_eq_getElem?]
  unfold lastQ
  rw [List.getD_eq_getElem?_getD, List.getElem?_eq_getElem (by omega)]
  rfl
theorem rep_rats (k : Nat) (m : List Rat) : List.replicate k (rT 0) ++ m.map rT = (shiftD 0 k m).map rT := by simp [shiftD]
def addQ (F T : List Rat) : DD → SV
  | .int k => .dat (rT (F.getD k.toNat 0 + T.getD k.toNat 0))
  | _ => .dat .non
theorem addQ_all (F T : List Rat) (h : T.length = F.length) : (rgD 0 1 (F.length - 1)).map (addQ F T) = (((List.zipWith (· + ·) F T).dropLast).map rT).map SV.dat := by
  apply List.ext_getElem
  · simp [rgD, h]
  · intro i h1 h2
    have hi : i < F.length - 1 := by simpa [rgD] using h1
    have h3 : i < F.length := by omega
    have h4 : i < T.length := by omega
    simp [rgD, addQ, h3, h4]
/-- a test whose worth is known and that leaves the state -/
theorem if_go {c : FT} {f g : FS} {D : DEnds} {ρ : Rho} (b : Bool) (hc : ∀ Q : Bool → Rho → Prop, Q b ρ → c ρ Q) (h : if b = true then f D ρ else g D ρ) : fIf c f g D ρ := hc _ h
theorem lcm_step (M d : Nat) : ((M : Int) * (d : Int)).fdiv ((Int.gcd M d : Nat) : Int) = ((Nat.lcm M d : Nat) : Int) := by
  rw [Int.fdiv_eq_ediv_of_nonneg _ (by omega)]
  show ((M : Int) * (d : Int)) / ((Nat.gcd M d : Nat) : Int) = _
  rw [← Int.natCast_mul, ← Int.natCast_ediv]
  rfl
theorem Fb.den {L : Int} {s : Nat} {F : List Rat} (h : Fb L s F) (l0 : L ≠ 0) (j : Nat) : (F.getD j 0).den ∣ (L ^ s).natAbs := by
  obtain ⟨n, _, e⟩ := h j
  rw [e, Rat.den_divInt, if_neg (Int.pow_ne_zero l0)]
  exact Nat.div_dvd_of_dvd (Nat.gcd_dvd_left _ _)
/-- the fractions times a common multiple of their denominators -/
def upQ (M : Nat) (F : List Rat) : List Int := F.map fun x => x.num * ((M / x.den : Nat) : Int)
theorem upQ_rel {M : Nat} {F : List Rat} (hM : 0 < M) (h : ∀ x ∈ F, x.den ∣ M) : Rel (upQ M F) F := by
  refine ⟨(M : Rat), by exact_mod_cast hM, fun i => ?_⟩
  unfold upQ
  simp only [List.getD_eq_getElem?_getD, List.getElem?_map]
  by_cases hi : i < F.length
  · rw [List.getElem?_eq_getElem hi]
    simp only [Option.map_some, Option.getD_some]
    obtain ⟨k, hk⟩ := h _ (List.getElem_mem hi)
    have d := rat_dn F[i]
    have e : M / F[i].den = k := by rw [hk, Nat.mul_div_cancel_left _ F[i].den_pos]
    rw [e, Rat.intCast_mul, ← d]
    have e2 : (M : Rat) = (F[i].den : Rat) * (k : Rat) := by rw [hk]; exact_mod_cast rfl
    rw [e2]
    have e3 : (((k : Nat) : Int) : Rat) = (k : Rat) := rfl
    rw [e3]
    grind
  · rw [List.getElem?_eq_none (by omega)]
    simp
def upG (M : Nat) : DD → SV
  | .tup [.int n, .int d] => .dat (.int ((n * M).fdiv d))
  | _ => .dat .non
theorem upG_rT {M : Nat} {x : Rat} (h : x.den ∣ M) : upG M (rT x) = .dat (.int (x.num * ((M / x.den : Nat) : Int))) := by
  obtain ⟨k, hk⟩ := h
  have e : M / x.den = k := by rw [hk, Nat.mul_div_cancel_left _ x.den_pos]
  show SV.dat (.int ((x.num * (M : Int)).fdiv (x.den : Int))) = _
  rw [e, hk, Int.natCast_mul]
  have : x.num * ((x.den : Int) * (k : Int)) = (x.den : Int) * (x.num * k) := by grind
  rw [this, Int.mul_fdiv_cancel_left _ (rden x)]
theorem upG_all {M : Nat} {F : List Rat} (h : ∀ x ∈ F, x.den ∣ M) : (F.map rT).map (upG M) = tI (upQ M F) := by
  unfold tI upQ
  rw [List.map_map, List.map_map]
  exact List.map_congr_left fun x m => upG_rT (h x m)
end DL

namespace DL
open PySem PySem.Spec PyProof.Rows L2
/-! ### a product's numbers -/
theorem rowP_get (a : Int) : ∀ (k : Nat) (m f : List Int) (j : Nat), k + m.length ≤ f.length → (rowP a k m f).getD j 0 = f.getD j 0 + if k ≤ j then a * m.getD (j - k) 0 else 0
  | k, [], f, j, h => by rw [rowP]; simp
  | k, b :: m, f, j, h => by
    simp only [List.length_cons] at h
    rw [rowP, rowP_get a (k + 1) m _ j (by rw [bump_len]; omega), bump_get _ _ _ _ (by omega)]
    rcases Nat.lt_trichotomy j k with l | l | l
    · rw [if_neg (by omega), if_neg (by omega), if_neg (by omega)]; omega
    · subst l
      rw [if_pos rfl, if_neg (by omega), if_pos (Nat.le_refl _), Nat.sub_self]
      simp
    · rw [if_neg (by omega), if_pos (by omega), if_pos (by omega)]
      obtain ⟨d, rfl⟩ : ∃ d, j = k + 1 + d := ⟨j - (k + 1), by omega⟩
      rw [show k + 1 + d - (k + 1) = d by omega, show k + 1 + d - k = d + 1 by omega]
      simp
/-- the sum over the numbers of l, told from k on -/
def cf (m : List Int) : Nat → List Int → Nat → Int
  | _, [], _ => 0
  | k, a :: l, j => (if k ≤ j then a * m.getD (j - k) 0 else 0) + cf m (k + 1) l j
theorem mulG_get (m : List Int) : ∀ (k : Nat) (l f : List Int) (j : Nat), k + l.length + m.length ≤ f.length + 1 → (mulG m k l f).getD j 0 = f.getD j 0 + cf m k l j
  | k, [], f, j, _ => by rw [mulG, cf]; omega
  | k, a :: l, f, j, h => by
    simp only [List.length_cons] at h
    rw [mulG, mulG_get m (k + 1) l _ j (by rw [rowP_len]; omega), rowP_get a k m f j (by omega), cf]
    omega
theorem mulP_get (l m : List Int) (j : Nat) : (mulP l m).getD j 0 = cf m 0 l j := by
  by_cases h : l.length + m.length = 0
  · have h1 : l = [] := List.eq_nil_of_length_eq_zero (by omega)
    have h2 : m = [] := List.eq_nil_of_length_eq_zero (by omega)
    subst h1 h2
    rfl
  · unfold mulP
    rw [mulG_get m 0 l _ j (by simp; omega)]
    rw [List.getD_eq_getElem?_getD, List.getElem?_replicate]
    split <;> simp
theorem cf_snoc (m : List Int) (a : Int) : ∀ (k : Nat) (l : List Int) (j : Nat), cf m k (l ++ [a]) j = cf m k l j + if k + l.length ≤ j then a * m.getD (j - (k + l.length)) 0 else 0
  | k, [], j => by simp [cf]
  | k, b :: l, j => by
    rw [List.cons_append, cf, cf, cf_snoc m a (k + 1) l j]
    have e : k + 1 + l.length = k + (b :: l).length := by simp; omega
    rw [e]
    omega
theorem cf_out {m : List Int} : ∀ (k : Nat) (l : List Int) (j : Nat), k + l.length + m.length ≤ j + 1 → cf m k l j = 0
  | k, [], j, _ => rfl
  | k, a :: l, j, h => by
    simp only [List.length_cons] at h
    rw [cf, cf_out (k + 1) l j (by omega)]
    split
    · rw [getD_out (by omega)]; simp
    · rfl
/-- dividing a product with something shorter put to it leaves that -/
theorem rest_sum {r s : List Int} (r0 : r ≠ []) (lz : lastI r ≠ 0) (hs : s.length < r.length) : ∀ (n : Nat) (f : List Int) (F : List Rat), f.length ≤ n → F.length = r.length + f.length - 1 → (∀ j : Nat, F.getD j 0 = ((cf r 0 f j + s.getD j 0 : Int) : Rat)) → Rel s (lLoop r n F) := by
  have p := List.length_pos_iff.mpr r0
  have lR : (lastI r : Rat) ≠ 0 := by exact_mod_cast lz
  have base : ∀ (n : Nat) (F : List Rat), F.length = r.length + 0 - 1 → (∀ j : Nat, F.getD j 0 = ((cf r 0 [] j + s.getD j 0 : Int) : Rat)) → Rel s (lLoop r n F) := fun n F hF e => by
    rw [lLoop_small n F (by omega)]
    refine ⟨1, by decide +kernel, fun i => ?_⟩
    rw [e i, cf, Int.zero_add, Rat.one_mul]
  intro n
  induction n with
  | zero =>
    intro f F h1 hF e
    have : f = [] := List.eq_nil_of_length_eq_zero (by omega)
    subst this
    exact base 0 F hF e
  | succ n ih =>
    intro f F h1 hF e
    by_cases fe : f = []
    · subst fe
      exact base _ F hF e
    · obtain ⟨g, a, rfl⟩ : ∃ g a, f = g ++ [a] := ⟨f.dropLast, f.getLast fe, (List.dropLast_concat_getLast fe).symm⟩
      simp only [List.length_append, List.length_cons, List.length_nil] at h1 hF
      have w : r.length ≤ F.length := by omega
      have top : lastQ F = (a : Rat) * (lastI r : Rat) := by
        unfold lastQ
        rw [e, cf_snoc, cf_out 0 g _ (by omega), getD_out (l := s) (by omega), if_pos (by omega)]
        have : F.length - 1 - (0 + g.length) = r.length - 1 := by omega
        rw [this]
        show ((0 + a * lastI r + 0 : Int) : Rat) = _
        rw [Int.zero_add, Int.add_zero, Rat.intCast_mul]
      rw [lLoop, if_pos w]
      refine ih g (lStep r F) (by omega) (by rw [lStep_len w]; omega) fun j => ?_
      rw [lStep_get w, top]
      by_cases hj : j < F.length - 1
      · rw [if_pos hj, e, cf_snoc]
        by_cases hk : j < F.length - r.length
        · rw [if_pos hk, if_neg (by omega), Int.add_zero, Rat.add_zero]
        · rw [if_neg hk, if_pos (by omega), show j - (F.length - r.length) = j - (0 + g.length) by omega]
          rw [Rat.intCast_add, Rat.intCast_add, Rat.intCast_mul, Rat.intCast_add]
          generalize ((r.getD (j - (0 + g.length)) 0 : Int) : Rat) = y
          generalize (lastI r : Rat) = l at *
          grind
      · rw [if_neg hj, cf_out 0 g j (by omega), getD_out (l := s) (by omega)]
        simp
theorem cf_shift (m : List Int) : ∀ (k : Nat) (l : List Int) (j : Nat), cf m (k + 1) l j = if j = 0 then 0 else cf m k l (j - 1)
  | k, [], j => by simp [cf]
  | k, a :: l, j => by
    rw [cf, cf, cf_shift m (k + 1) l j]
    by_cases h : j = 0
    · subst h
      simp
    · rw [if_neg h, if_neg h]
      by_cases q : k + 1 ≤ j
      · rw [if_pos q, if_pos (by omega), show j - 1 - k = j - (k + 1) by omega]
      · rw [if_neg q, if_neg (by omega)]
theorem cf_nil : ∀ (k : Nat) (l : List Int) (j : Nat), cf [] k l j = 0
  | _, [], _ => rfl
  | k, a :: l, j => by rw [cf, cf_nil (k + 1) l j]; simp
theorem cf_cons (b : Int) (m : List Int) : ∀ (k : Nat) (l : List Int) (j : Nat), cf (b :: m) k l j = (if k ≤ j then b * l.getD (j - k) 0 else 0) + if j = 0 then 0 else cf m k l (j - 1)
  | k, [], j => by simp [cf]
  | k, a :: l, j => by
    rw [cf, cf_cons b m (k + 1) l j]
    rcases Nat.lt_trichotomy j k with q | q | q
    · have h1 : ¬ k ≤ j := by omega
      have h2 : ¬ k + 1 ≤ j := by omega
      have h3 : ¬ k ≤ j - 1 := by omega
      rw [cf]
      simp only [if_neg h1, if_neg h2, if_neg h3]
      by_cases z : j = 0 <;> simp [z]
    · subst q
      have h2 : ¬ j + 1 ≤ j := by omega
      rw [cf]
      simp only [if_pos (Nat.le_refl j), if_neg h2, Nat.sub_self]
      by_cases z : j = 0
      · simp [z, Int.mul_comm]
      · have h3 : ¬ j ≤ j - 1 := by omega
        simp [z, h3, Int.mul_comm]
    · obtain ⟨d, rfl⟩ : ∃ d, j = k + 1 + d := ⟨j - (k + 1), by omega⟩
      have h1 : k ≤ k + 1 + d := by omega
      have h2 : k + 1 ≤ k + 1 + d := by omega
      have h3 : k ≤ k + 1 + d - 1 := by omega
      have h4 : ¬ k + 1 + d = 0 := by omega
      rw [cf]
      simp only [if_pos h1, if_pos h2, if_pos h3, if_neg h4]
      rw [show k + 1 + d - k = d + 1 by omega, show k + 1 + d - (k + 1) = d by omega, show k + 1 + d - 1 - k = d by omega]
      simp only [List.getD_cons_succ]
      omega
theorem cf_comm : ∀ (l m : List Int) (j : Nat), cf m 0 l j = cf l 0 m j
  | [], m, j => by rw [cf_nil]; rfl
  | a :: l, m, j => by
    rw [cf, cf_cons, cf_shift]
    by_cases z : j = 0
    · rw [if_pos z, if_pos z]
    · rw [if_neg z, if_neg z, cf_comm l m (j - 1)]
theorem addP_getD : ∀ (l m : List Int) (j : Nat), (addP l m).getD j 0 = l.getD j 0 + m.getD j 0
  | [], m, j => by rw [addP]; simp
  | a :: l, [], j => by rw [addP]; simp; simp
  | a :: l, b :: m, 0 => by rw [addP]; simp
  | a :: l, b :: m, j + 1 => by
    rw [addP]
    simpa using addP_getD l m j
/-- a product with something shorter put to it -/
theorem whole_ok {r f s : List Int} (r0 : r ≠ []) (f0 : f ≠ []) (zr : r.getLast? ≠ some 0) (zf : f.getLast? ≠ some 0) (hs : s.length < r.length) :
    (addP (mulP r f) s).getLast? ≠ some 0 ∧ (addP (mulP r f) s).length = r.length + f.length - 1 ∧ ∀ j : Nat, (addP (mulP r f) s).getD j 0 = cf r 0 f j + s.getD j 0 := by
  have p := List.length_pos_iff.mpr r0
  have q := List.length_pos_iff.mpr f0
  have ln : (addP (mulP r f) s).length = r.length + f.length - 1 := by rw [addP_len, mulP_len]; omega
  have num : ∀ j : Nat, (addP (mulP r f) s).getD j 0 = cf r 0 f j + s.getD j 0 := fun j => by rw [addP_getD, mulP_get, cf_comm]
  refine ⟨fun z => ?_, ln, num⟩
  have t := mulP_last r0 f0 zr zf
  apply t
  rw [List.getLast?_eq_getElem?] at z ⊢
  have e1 := addP_getD (mulP r f) s (r.length + f.length - 1 - 1)
  rw [getD_out (l := s) (by omega), Int.add_zero] at e1
  rw [ln] at z
  rw [mulP_len]
  rw [List.getD_eq_getElem?_getD, z, List.getD_eq_getElem?_getD] at e1
  have hl : r.length + f.length - 1 - 1 < (mulP r f).length := by rw [mulP_len]; omega
  rw [List.getElem?_eq_getElem hl] at e1 ⊢
  simp at e1
  rw [← e1]
/-- .. and its rest -/
theorem rest_whole {r f s : List Int} (r0 : r ≠ []) (f0 : f ≠ []) (zr : r.getLast? ≠ some 0) (zf : f.getLast? ≠ some 0) (hs : s.length < r.length) (zs : s.getLast? ≠ some 0) :
    pLoop r (addP (mulP r f) s).length (prim (addP (mulP r f) s)) = prim s := by
  obtain ⟨h1, h2, h3⟩ := whole_ok r0 f0 zr zf hs
  have rs := rest_sum r0 (last_ne r0 zr) hs (addP (mulP r f) s).length f ((addP (mulP r f) s).map fun i : Int => (i : Rat)) (by rw [h2]; have := List.length_pos_iff.mpr r0; omega) (by simp [h2]) fun j => by
    rw [getD_map (fun i : Int => (i : Rat)) 0 0 Rat.intCast_zero, h3]
  rw [rest_law h1 r0 zr rs, trim_eq s zs]
/-! sizes of what a rest leaves -/
theorem getD_sm {y : List Int} {B : Nat} (k : Nat) (h : ∀ c ∈ y, Sm B c) : Sm B (y.getD k 0) := by
  rw [List.getD_eq_getElem?_getD]
  by_cases hk : k < y.length
  · rw [List.getElem?_eq_getElem hk]; exact h _ (List.getElem_mem hk)
  · rw [List.getElem?_eq_none (by omega)]
    exact smc (by simp; exact Nat.pow_pos (by decide))
theorem pRaw_sm {o f : List Int} {A : Nat} (z : o.length ≤ f.length) (bo : ∀ c ∈ o, Sm 60 c) (hB : ∀ c ∈ f, Sm A c) : ∀ c ∈ pRaw o f, Sm (A + 61) c := by
  intro c hc
  obtain ⟨i, hi, e⟩ := List.getElem_of_mem hc
  have e2 : (pRaw o f).getD i 0 = c := by rw [List.getD_eq_getElem?_getD, List.getElem?_eq_getElem hi]; exact e
  rw [pRaw_get z] at e2
  have sl : Sm 60 (((lastI o).natAbs : Nat) : Int) := by
    have : Sm 60 (lastI o) := getD_sm _ bo
    unfold Sm at *
    simpa using this
  have hT : Sm A (if 0 < lastI o then lastI f else -lastI f) := by
    have m : Sm A (lastI f) := getD_sm _ hB
    split
    · exact m
    · exact m.neg
  rw [← e2]
  refine (Sm.sub (sl.mul (getD_sm i hB)) (l := A + 60) ?_).mono (by omega)
  split
  · exact smc (by simp; exact Nat.pow_pos (by decide))
  · exact hT.mul (getD_sm _ bo)
theorem pStep_sm {o f : List Int} {A : Nat} (z : o.length ≤ f.length) (bo : ∀ c ∈ o, Sm 60 c) (hB : ∀ c ∈ f, Sm A c) : ∀ c ∈ pStep o f, Sm (A + 61) c := by
  intro c m
  obtain ⟨a, ha, rfl⟩ := List.mem_map.mp m
  exact fdiv_sm (pRaw_sm z bo hB a (trim_sub ha)) (by omega)
theorem pLoop_sm {o : List Int} (o0 : o ≠ []) (bo : ∀ c ∈ o, Sm 60 c) : ∀ (n : Nat) (f : List Int) (A : Nat), (∀ c ∈ f, Sm A c) → (∀ c ∈ pLoop o n f, Sm (A + 61 * f.length) c) ∧ (pLoop o n f).length ≤ f.length
  | 0, f, A, h => ⟨fun c m => (h c m).mono (by omega), Nat.le_refl _⟩
  | n + 1, f, A, h => by
    rw [pLoop]
    by_cases z : o.length ≤ f.length
    · rw [if_pos z]
      have hl := pStep_len o0 z
      have p := List.length_pos_iff.mpr o0
      obtain ⟨h1, h2⟩ := pLoop_sm o0 bo n (pStep o f) (A + 61) (pStep_sm z bo h)
      exact ⟨fun c m => (h1 c m).mono (by omega), by omega⟩
    · rw [if_neg z]
      exact ⟨fun c m => (h c m).mono (by omega), Nat.le_refl _⟩
end DL

namespace DL
open PySem PySem.Spec PyProof.Rows L2
/-! ### sizes of a rest, whatever the sizes of both -/
theorem pRaw_smG {o f : List Int} {A B : Nat} (z : o.length ≤ f.length) (bo : ∀ c ∈ o, Sm B c) (hB : ∀ c ∈ f, Sm A c) : ∀ c ∈ pRaw o f, Sm (A + (B + 1)) c := by
  intro c hc
  obtain ⟨i, hi, e⟩ := List.getElem_of_mem hc
  have e2 : (pRaw o f).getD i 0 = c := by rw [List.getD_eq_getElem?_getD, List.getElem?_eq_getElem hi]; exact e
  rw [pRaw_get z] at e2
  have sl : Sm B (((lastI o).natAbs : Nat) : Int) := by
    have : Sm B (lastI o) := getD_sm _ bo
    unfold Sm at *
    simpa using this
  have hT : Sm A (if 0 < lastI o then lastI f else -lastI f) := by
    have m : Sm A (lastI f) := getD_sm _ hB
    split
    · exact m
    · exact m.neg
  rw [← e2]
  refine (Sm.sub (sl.mul (getD_sm i hB)) (l := A + B) ?_).mono (by omega)
  split
  · exact smc (by simp; exact Nat.pow_pos (by decide))
  · exact hT.mul (getD_sm _ bo)
theorem pStep_smG {o f : List Int} {A B : Nat} (z : o.length ≤ f.length) (bo : ∀ c ∈ o, Sm B c) (hB : ∀ c ∈ f, Sm A c) : ∀ c ∈ pStep o f, Sm (A + (B + 1)) c := by
  intro c m
  obtain ⟨a, ha, rfl⟩ := List.mem_map.mp m
  exact fdiv_sm (pRaw_smG z bo hB a (trim_sub ha)) (by omega)
theorem pLoop_smG {o : List Int} (o0 : o ≠ []) {B : Nat} (bo : ∀ c ∈ o, Sm B c) : ∀ (n : Nat) (f : List Int) (A : Nat), (∀ c ∈ f, Sm A c) → (∀ c ∈ pLoop o n f, Sm (A + (B + 1) * (f.length + 1 - o.length)) c) ∧ (pLoop o n f).length ≤ f.length
  | 0, f, A, h => ⟨fun c m => (h c m).mono (by omega), Nat.le_refl _⟩
  | n + 1, f, A, h => by
    rw [pLoop]
    by_cases z : o.length ≤ f.length
    · rw [if_pos z]
      have hl := pStep_len o0 z
      have p := List.length_pos_iff.mpr o0
      obtain ⟨h1, h2⟩ := pLoop_smG o0 bo n (pStep o f) (A + (B + 1)) (pStep_smG z bo h)
      have k := Nat.mul_le_mul_left (B + 1) (show (pStep o f).length + 1 - o.length + 1 ≤ f.length + 1 - o.length by omega)
      rw [Nat.mul_succ] at k
      exact ⟨fun c m => (h1 c m).mono (by omega), by omega⟩
    · rw [if_neg z]
      exact ⟨fun c m => (h c m).mono (by omega), Nat.le_refl _⟩
theorem pLoop_lt {o : List Int} (o0 : o ≠ []) : ∀ (n : Nat) (f : List Int), f.length ≤ n → (pLoop o n f).length < o.length := by
  have p := List.length_pos_iff.mpr o0
  intro n
  induction n with
  | zero => intro f h; rw [pLoop]; omega
  | succ n ih =>
    intro f h
    rw [pLoop]
    by_cases z : o.length ≤ f.length
    · rw [if_pos z]
      have hl := pStep_len o0 z
      exact ih _ (by omega)
    · rw [if_neg z]; omega
/-- the rest of l by o -/
def restP (l o : List Int) : List Int := pLoop o l.length (prim l)
theorem restP_small {l o : List Int} (h : l.length < o.length) : restP l o = prim l := pLoop_small _ _ (by rw [prim_len]; exact h)
theorem restP_sm {l o : List Int} {A B : Nat} (o0 : o ≠ []) (bl : ∀ c ∈ l, Sm A c) (bo : ∀ c ∈ o, Sm B c) : ∀ c ∈ restP l o, Sm (A + (B + 1) * (l.length + 1 - o.length)) c := by
  have h := (pLoop_smG o0 bo l.length (prim l) A fun c m => by
    obtain ⟨a, ha, rfl⟩ := List.mem_map.mp m
    exact fdiv_sm (bl a ha) (by omega)).1
  rw [prim_len] at h
  exact h
theorem restP_lt {l o : List Int} (o0 : o ≠ []) : (restP l o).length < o.length := pLoop_lt o0 _ _ (by rw [prim_len]; exact Nat.le_refl _)
theorem restP_pok {l o : List Int} (zl : l.getLast? ≠ some 0) (o0 : o ≠ []) (zo : o.getLast? ≠ some 0) : Pok (restP l o) := by
  by_cases e : l = []
  · subst e
    exact ⟨by unfold restP; simp [prim, pLoop], by unfold restP; simp [prim, pLoop]⟩
  · exact (loops o0 (last_ne o0 zo) l.length l.length (prim l) (l.map fun i : Int => (i : Rat)) ((rel_self l).prim (gcdL_trim e zl)) (Pok.of zl) (by rw [prim_len]; simp) (by rw [prim_len]; exact Nat.le_refl _) (by simp)).2
/-- a number without a divisor is 1 or -1 -/
theorem Pok.one {c : Int} (h : Pok [c]) : c.natAbs = 1 := by
  have z := h.z
  have p := h.p
  have e : gcdL [c] = c.natAbs := by simp [gcdL, gcdF]
  have c0 : c ≠ 0 := by simpa using z
  unfold DL.prim at p
  rw [e] at p
  simp only [List.map_cons, List.map_nil, List.cons.injEq, and_true] at p
  have q : c.fdiv (c.natAbs : Int) = c.ediv (c.natAbs : Int) := Int.fdiv_eq_ediv_of_nonneg _ (by omega)
  rw [q] at p
  have h1 := Int.natAbs_ediv_of_dvd (a := c) (b := (c.natAbs : Int)) (by exact Int.natAbs_dvd.mpr (Int.dvd_refl c))
  have h2 : (c.ediv (c.natAbs : Int)).natAbs = c.natAbs / c.natAbs := by
    have := h1
    simp at this
    exact this
  rw [p, Nat.div_self (by omega)] at h2
  exact h2
/-! ### the slope -/
def rk : Nat → List Int → List Int
  | _, [] => []
  | k, a :: l => (k : Int) * a :: rk (k + 1) l
theorem rk_len : ∀ (k : Nat) (l : List Int), (rk k l).length = l.length
  | _, [] => rfl
  | k, a :: l => by rw [rk, List.length_cons, rk_len (k + 1) l, List.length_cons]
theorem rk_get : ∀ (k : Nat) (l : List Int) (j : Nat), (rk k l).getD j 0 = ((k + j : Nat) : Int) * l.getD j 0
  | _, [], j => by simp [rk]
  | k, a :: l, 0 => by simp [rk]
  | k, a :: l, j + 1 => by
    rw [rk]
    simp only [List.getD_cons_succ]
    rw [rk_get (k + 1) l j, show k + 1 + j = k + (j + 1) by omega]
def slopeP (l : List Int) : List Int := (rk 0 l).drop 1
theorem slope_len (l : List Int) : (slopeP l).length = l.length - 1 := by simp [slopeP, rk_len]
theorem slope_get (l : List Int) (j : Nat) : (slopeP l).getD j 0 = ((j + 1 : Nat) : Int) * l.getD (j + 1) 0 := by
  have e : (slopeP l).getD j 0 = (rk 0 l).getD (j + 1) 0 := by
    unfold slopeP
    rw [List.getD_eq_getElem?_getD, List.getD_eq_getElem?_getD, List.getElem?_drop, Nat.add_comm 1 j]
  rw [e, rk_get, Nat.zero_add]
theorem last_getD (l : List Int) : l.getLast? = if l = [] then none else some (lastI l) := by
  by_cases h : l = []
  · subst h; rfl
  · rw [if_neg h, List.getLast?_eq_getElem?]
    have p := List.length_pos_iff.mpr h
    unfold lastI
    rw [List.getD_eq_getElem?_getD, List.getElem?_eq_getElem (by omega)]
    rfl
theorem slope_last {l : List Int} (h : 1 < l.length) : lastI (slopeP l) = ((l.length - 1 : Nat) : Int) * lastI l := by
  unfold lastI
  rw [slope_get, slope_len, show l.length - 1 - 1 + 1 = l.length - 1 by omega]
theorem slope_z {l : List Int} (z : l.getLast? ≠ some 0) : (slopeP l).getLast? ≠ some 0 := by
  rw [last_getD]
  by_cases h : slopeP l = []
  · rw [if_pos h]; simp
  · rw [if_neg h]
    have p : 0 < (slopeP l).length := List.length_pos_iff.mpr h
    rw [slope_len] at p
    have l0 : l ≠ [] := fun e => by subst e; simp at p
    rw [slope_last (by omega)]
    have := last_ne l0 z
    have q : ((l.length - 1 : Nat) : Int) ≠ 0 := by omega
    intro e
    have := Option.some.inj e
    rcases Int.mul_eq_zero.mp this with h | h
    · exact q h
    · exact absurd h ‹_›
end DL

namespace DL
open PySem PySem.Spec PyProof.Rows L2
/-! ### the first rest of a row: the polynomial's by its slope -/
def sg (l : List Int) : Int := if 0 < lastI l then 1 else -1
/-- a times of it, with integers -/
def sRest (l : List Int) : List Int :=
  (List.range (l.length - 2)).map fun j => sg l * (((l.length - 1 : Nat) : Int) * lastI l * (((l.length - 1 - j : Nat) : Int) * l.getD j 0) - l.getD (l.length - 2) 0 * (((j + 1 : Nat) : Int) * l.getD (j + 1) 0))
theorem sRest_get (l : List Int) (j : Nat) : (sRest l).getD j 0 = if j < l.length - 2 then sg l * (((l.length - 1 : Nat) : Int) * lastI l * (((l.length - 1 - j : Nat) : Int) * l.getD j 0) - l.getD (l.length - 2) 0 * (((j + 1 : Nat) : Int) * l.getD (j + 1) 0)) else 0 := by
  unfold sRest
  rw [List.getD_eq_getElem?_getD, List.getElem?_map]
  by_cases h : j < l.length - 2
  · rw [List.getElem?_range h, if_pos h]; rfl
  · rw [List.getElem?_eq_none (by simpa using h), if_neg h]; rfl
theorem cast_get (l : List Int) (j : Nat) : (l.map fun i : Int => (i : Rat)).getD j 0 = ((l.getD j 0 : Int) : Rat) := getD_map (fun i : Int => (i : Rat)) 0 0 Rat.intCast_zero l j
theorem sRest_rel {l : List Int} (hn : 1 < l.length) (z : l.getLast? ≠ some 0) : Rel (sRest l) (lLoop (slopeP l) l.length (l.map fun i : Int => (i : Rat))) := by
  obtain ⟨n, en⟩ : ∃ n, l.length = n + 2 := ⟨l.length - 2, by omega⟩
  have a0 : lastI l ≠ 0 := last_ne (fun e => by subst e; simp at hn) z
  have ol : (slopeP l).length = n + 1 := by rw [slope_len]; omega
  have sl := slope_last hn
  rw [show l.length - 1 = n + 1 by omega] at sl
  have la : lastI l = l.getD (n + 1) 0 := by unfold lastI; rw [en]; rfl
  have F0l : (l.map fun i : Int => (i : Rat)).length = n + 2 := by simp [en]
  have F0q : lastQ (l.map fun i : Int => (i : Rat)) = (lastI l : Rat) := by
    unfold lastQ
    rw [F0l, cast_get, la]
    rfl
  have A0 : (lastI l : Rat) ≠ 0 := by exact_mod_cast a0
  have N0 : (((n + 1 : Nat) : Int) : Rat) ≠ 0 := by
    have : ((n + 1 : Nat) : Int) ≠ 0 := by omega
    exact_mod_cast this
  have Lq : ((lastI (slopeP l) : Int) : Rat) = (((n + 1 : Nat) : Int) : Rat) * (lastI l : Rat) := by rw [sl, Rat.intCast_mul]
  have step1 : ∀ j : Nat, (lStep (slopeP l) (l.map fun i : Int => (i : Rat))).getD j 0 = if j < n + 1 then ((l.getD j 0 : Int) : Rat) * (1 - ((j : Int) : Rat) / (((n + 1 : Nat) : Int) : Rat)) else 0 := fun j => by
    rw [lStep_get (by rw [ol, F0l]; omega), F0l, ol, F0q, Lq]
    by_cases h : j < n + 1
    · rw [if_pos (by omega), if_pos h, cast_get]
      by_cases h0 : j = 0
      · subst h0
        rw [if_pos (by omega), Rat.add_zero]
        simp only [Int.natCast_zero, Int.cast_ofNat_Int, Rat.intCast_zero]
        grind
      · rw [if_neg (by omega), slope_get, show j - (n + 2 - (n + 1)) + 1 = j by omega, Rat.intCast_mul]
        generalize (((n + 1 : Nat) : Int) : Rat) = N at *
        generalize (lastI l : Rat) = a at *
        generalize ((l.getD j 0 : Int) : Rat) = x at *
        generalize ((j : Int) : Rat) = y at *
        grind
    · rw [if_neg (by omega), if_neg h]
  have F1l : (lStep (slopeP l) (l.map fun i : Int => (i : Rat))).length = n + 1 := by rw [lStep_len (by rw [ol, F0l]; omega), F0l]; rfl
  have F1q : lastQ (lStep (slopeP l) (l.map fun i : Int => (i : Rat))) = ((l.getD n 0 : Int) : Rat) / (((n + 1 : Nat) : Int) : Rat) := by
    unfold lastQ
    rw [F1l, step1, if_pos (by omega), show n + 1 - 1 = n by omega]
    have : (((n + 1 : Nat) : Int) : Rat) = ((n : Int) : Rat) + 1 := by
      rw [show ((n + 1 : Nat) : Int) = (n : Int) + 1 by omega, Rat.intCast_add, Rat.intCast_one]
    rw [this] at N0 ⊢
    generalize ((l.getD n 0 : Int) : Rat) = x at *
    generalize ((n : Int) : Rat) = y at *
    grind
  rw [en, lLoop, if_pos (by rw [ol, F0l]; omega), lLoop, if_pos (by rw [ol, F1l]; omega), lLoop_small _ _ (by rw [lStep_len (by rw [ol, F1l]; omega), F1l, ol]; omega)]
  refine ⟨(((n + 1 : Nat) : Int) : Rat) * (((n + 1 : Nat) : Int) : Rat) * ((sg l : Rat) * (lastI l : Rat)), ?_, fun j => ?_⟩
  · have p : (0 : Rat) < (((n + 1 : Nat) : Int) : Rat) := by
      have : (0 : Int) < ((n + 1 : Nat) : Int) := by omega
      exact_mod_cast this
    have q : (0 : Rat) < (sg l : Rat) * (lastI l : Rat) := by
      unfold sg
      split
      · have : (0 : Rat) < (lastI l : Rat) := by exact_mod_cast ‹0 < lastI l›
        grind
      · have : lastI l < 0 := by omega
        have : (lastI l : Rat) < 0 := by exact_mod_cast this
        grind
    exact Rat.mul_pos (Rat.mul_pos p p) q
  · rw [sRest_get, lStep_get (by rw [ol, F1l]; omega), F1l, ol, F1q, Lq, step1, en]
    by_cases h : j < n
    · rw [if_pos (by omega), if_pos (by omega), if_pos (by omega), if_neg (by omega), slope_get, show j - (n + 1 - (n + 1)) + 1 = j + 1 by omega]
      rw [show n + 2 - 1 - j = n + 1 - j by omega, show n + 2 - 2 = n by omega, show n + 2 - 1 = n + 1 by omega]
      have e1 : ((n + 1 - j : Nat) : Int) = ((n + 1 : Nat) : Int) - (j : Int) := by omega
      rw [e1]
      have e2 : ∀ s : Int, (((s * (((n + 1 : Nat) : Int) * lastI l * ((((n + 1 : Nat) : Int) - (j : Int)) * l.getD j 0) - l.getD n 0 * (((j + 1 : Nat) : Int) * l.getD (j + 1) 0)) : Int)) : Rat) = (s : Rat) * ((((n + 1 : Nat) : Int) : Rat) * (lastI l : Rat) * (((((n + 1 : Nat) : Int) : Rat) - ((j : Int) : Rat)) * ((l.getD j 0 : Int) : Rat)) - ((l.getD n 0 : Int) : Rat) * ((((j + 1 : Nat) : Int) : Rat) * ((l.getD (j + 1) 0 : Int) : Rat))) := fun s => by
        simp only [Rat.intCast_mul, Rat.intCast_sub]
      rw [e2, Rat.intCast_mul]
      generalize ((sg l : Int) : Rat) = s at *
      generalize (((n + 1 : Nat) : Int) : Rat) = N at *
      generalize (lastI l : Rat) = a at *
      generalize ((l.getD j 0 : Int) : Rat) = x at *
      generalize ((l.getD n 0 : Int) : Rat) = b at *
      generalize ((l.getD (j + 1) 0 : Int) : Rat) = w at *
      generalize ((j : Int) : Rat) = y at *
      generalize (((j + 1 : Nat) : Int) : Rat) = y1 at *
      grind
    · rw [if_neg (by omega), if_neg (by omega), Rat.mul_zero, Rat.intCast_zero]
theorem getD_bd {B : Nat} {l : List Int} (h : Bd B l) (k : Nat) : (l.getD k 0).natAbs ≤ B := by
  rw [List.getD_eq_getElem?_getD]
  by_cases hk : k < l.length
  · rw [List.getElem?_eq_getElem hk]; exact h _ (List.getElem_mem hk)
  · rw [List.getElem?_eq_none (by omega)]; simp
theorem sRest_bd {l : List Int} (hl : l.length ≤ 8) (h : Bd 1000000 l) : ∀ c ∈ sRest l, Sm 46 c := by
  intro c m
  obtain ⟨j, hj, rfl⟩ := List.mem_map.mp m
  have hj := List.mem_range.mp hj
  have b1 := getD_bd h j
  have b2 := getD_bd h (j + 1)
  have b3 := getD_bd h (l.length - 2)
  have b4 : (lastI l).natAbs ≤ 1000000 := getD_bd h _
  have t1 : (((l.length - 1 : Nat) : Int) * lastI l * (((l.length - 1 - j : Nat) : Int) * l.getD j 0)).natAbs ≤ 7 * 1000000 * (7 * 1000000) := by
    simp only [Int.natAbs_mul, Int.natAbs_natCast]
    exact Nat.mul_le_mul (Nat.mul_le_mul (by omega) b4) (Nat.mul_le_mul (by omega) b1)
  have t2 : (l.getD (l.length - 2) 0 * (((j + 1 : Nat) : Int) * l.getD (j + 1) 0)).natAbs ≤ 1000000 * (7 * 1000000) := by
    simp only [Int.natAbs_mul, Int.natAbs_natCast]
    exact Nat.mul_le_mul b3 (Nat.mul_le_mul (by omega) b2)
  generalize ((l.length - 1 : Nat) : Int) * lastI l * (((l.length - 1 - j : Nat) : Int) * l.getD j 0) = u at *
  generalize l.getD (l.length - 2) 0 * (((j + 1 : Nat) : Int) * l.getD (j + 1) 0) = v at *
  have : (sg l * (u - v)).natAbs ≤ 56000000000000 := by
    rw [Int.natAbs_mul]
    have e : (sg l).natAbs = 1 := by unfold sg; split <;> rfl
    rw [e, Nat.one_mul]
    omega
  exact Nat.lt_of_le_of_lt this (by decide)
theorem rest_slope {l : List Int} (hn : 1 < l.length) (hl : l.length ≤ 8) (h : Bd 1000000 l) (z : l.getLast? ≠ some 0) : ∀ c ∈ restP l (slopeP l), Sm 46 c := by
  have o0 : slopeP l ≠ [] := fun e => by
    have := slope_len l
    rw [e] at this
    simp at this
    omega
  have e := rest_law z o0 (slope_z z) (sRest_rel hn z)
  unfold restP
  rw [e]
  intro c m
  obtain ⟨a, ha, rfl⟩ := List.mem_map.mp m
  exact fdiv_sm (sRest_bd hl h a (trim_sub ha)) (by omega)
/-! ### the row -/
def negP (l : List Int) : List Int := l.map fun i => -i
theorem negP_len (l : List Int) : (negP l).length = l.length := by simp [negP]
theorem negP_nil {l : List Int} : negP l = [] ↔ l = [] := by simp [negP]
theorem negP_sm {k : Nat} {l : List Int} (h : ∀ c ∈ l, Sm k c) : ∀ c ∈ negP l, Sm k c := fun c m => by
  obtain ⟨a, ha, rfl⟩ := List.mem_map.mp m
  exact (h a ha).neg
theorem negP_z {l : List Int} (h : l.getLast? ≠ some 0) : (negP l).getLast? ≠ some 0 := by
  unfold negP
  rw [List.getLast?_map]
  cases e : l.getLast? with
  | none => simp
  | some c =>
    rw [e] at h
    simp at h ⊢
    exact h
def chainT : Nat → List Int → List Int → List (List Int)
  | 0, _, _ => []
  | n + 1, x, y => if restP x y = [] then [] else negP (restP x y) :: chainT n y (negP (restP x y))
def rowOf (l : List Int) : List (List Int) := l :: if 1 < l.length then slopeP l :: chainT l.length l (slopeP l) else []
/-- how big the numbers of a polynomial of so many numbers are, in a row -/
def tb (n : Nat) : Nat := [20, 23, 1650, 683, 282, 117, 46, 23].getD n 20
structure Pr (x y : List Int) : Prop where
  n : x.length ≤ 8
  lt : y.length < x.length
  y0 : y ≠ []
  zx : x.getLast? ≠ some 0
  zy : y.getLast? ≠ some 0
  bx : ∀ c ∈ x, Sm (tb x.length) c
  cy : ∀ c ∈ y, Sm (if y.length ≤ 1 then 23 else tb (x.length - 1)) c
  nx : ∀ c ∈ restP x y, Sm (if (restP x y).length ≤ 1 then 23 else tb (y.length - 1)) c
theorem tb_mono : ∀ a : Nat, a < 8 → ∀ b : Nat, b < a → 2 ≤ b → tb (a - 1) ≤ tb b := by decide
theorem tb_mono8 : ∀ a : Nat, a < 9 → ∀ b : Nat, b < a → 2 ≤ b → tb (a - 1) ≤ tb b := by decide
theorem tb_step : ∀ a : Nat, a < 8 → ∀ b : Nat, b < a → 3 ≤ b → tb a + (tb (a - 1) + 1) * (a + 1 - b) ≤ tb (b - 1) := by decide
theorem len_one {l : List Int} (h : l.length = 1) : ∃ c, l = [c] := by
  match l, h with
  | [c], _ => exact ⟨c, rfl⟩
theorem rest_one {x y : List Int} (zx : x.getLast? ≠ some 0) (y0 : y ≠ []) (zy : y.getLast? ≠ some 0) (h : (restP x y).length ≤ 1) : ∀ c ∈ restP x y, Sm 23 c := by
  intro c m
  have p := restP_pok zx y0 zy
  have l1 : (restP x y).length = 1 := by
    have : 0 < (restP x y).length := List.length_pos_iff.mpr fun e => by rw [e] at m; cases m
    omega
  obtain ⟨d, e⟩ := len_one l1
  rw [e] at p m
  have q := p.one
  have : c = d := by simpa using m
  subst this
  unfold Sm
  rw [q]
  decide
theorem Pr.step {x y : List Int} (h : Pr x y) (r0 : restP x y ≠ []) : Pr y (negP (restP x y)) := by
  have lt := restP_lt (l := x) h.y0
  have rp : 0 < (restP x y).length := List.length_pos_iff.mpr r0
  have n8 := h.n
  have nlt := h.lt
  have z1 : (negP (restP x y)).getLast? ≠ some 0 := negP_z (restP_pok h.zx h.y0 h.zy).z
  have n0 : negP (restP x y) ≠ [] := fun e => r0 (negP_nil.mp e)
  have cy : ∀ c ∈ negP (restP x y), Sm (if (negP (restP x y)).length ≤ 1 then 23 else tb (y.length - 1)) c := by
    rw [negP_len]
    exact negP_sm h.nx
  have bx : ∀ c ∈ y, Sm (tb y.length) c := by
    intro c m
    have := h.cy c m
    have hy := h.y0
    rw [if_neg (by omega)] at this
    exact this.mono (tb_mono8 x.length (by omega) y.length nlt (by omega))
  refine ⟨by omega, by rw [negP_len]; exact lt, n0, h.zy, z1, bx, cy, ?_⟩
  intro c m
  split
  · exact rest_one h.zy n0 z1 ‹_› c m
  · have lt2 := restP_lt (l := y) n0
    rw [negP_len] at lt2
    have b := restP_sm n0 bx cy c m
    rw [negP_len, if_neg (by omega)] at b
    exact b.mono (by rw [negP_len]; exact tb_step y.length (by omega) _ lt (by omega))
theorem Pr.start {l : List Int} (hn : 1 < l.length) (hl : l.length ≤ 8) (h : Bd 1000000 l) (z : l.getLast? ≠ some 0) : Pr l (slopeP l) := by
  have o0 : slopeP l ≠ [] := fun e => by
    have := slope_len l
    rw [e] at this
    simp at this
    omega
  have t1 : ∀ n : Nat, n < 9 → 20 ≤ tb n := by decide
  have t2 : ∀ n : Nat, n < 9 → 2 ≤ n → 23 ≤ tb (n - 1) := by decide
  have t3 : ∀ n : Nat, n < 8 → 3 ≤ n → 46 ≤ tb (n - 1) := by decide
  have bs : ∀ c ∈ slopeP l, Sm 23 c := by
    intro c m
    obtain ⟨j, hj, e⟩ := List.getElem_of_mem m
    have e2 : (slopeP l).getD j 0 = c := by rw [List.getD_eq_getElem?_getD, List.getElem?_eq_getElem hj]; exact e
    rw [slope_len] at hj
    rw [← e2, slope_get]
    unfold Sm
    rw [Int.natAbs_mul, Int.natAbs_natCast]
    exact Nat.lt_of_le_of_lt (Nat.mul_le_mul (show j + 1 ≤ 7 by omega) (getD_bd h (j + 1))) (by decide)
  refine ⟨hl, by rw [slope_len]; omega, o0, z, slope_z z, fun c m => (h.sm (k := 20) (by decide) c m).mono (t1 _ (by omega)), ?_, ?_⟩
  · intro c m
    split
    · exact bs c m
    · exact (bs c m).mono (t2 _ (by omega) (by omega))
  · intro c m
    split
    · exact rest_one z o0 (slope_z z) ‹_› c m
    · have lt := restP_lt (l := l) o0
      rw [slope_len] at lt ⊢
      exact (rest_slope hn hl h z c m).mono (t3 _ (by omega) (by omega))
/-- what a chain's members are -/
structure Mb (p : List Int) : Prop where
  n : p.length ≤ 8
  p0 : p ≠ []
  z : p.getLast? ≠ some 0
  b : ∀ c ∈ p, Sm (tb p.length) c
theorem Pr.mx {x y : List Int} (h : Pr x y) : Mb x := ⟨h.n, fun e => by have := h.lt; rw [e] at this; simp at this, h.zx, h.bx⟩
theorem Pr.my {x y : List Int} (h : Pr x y) : Mb y := ⟨by have := h.n; have := h.lt; omega, h.y0, h.zy, fun c m => by
  have := h.cy c m
  have nlt := h.lt
  have n8 := h.n
  split at this
  · have : 0 < y.length := List.length_pos_iff.mpr h.y0
    have e : y.length = 1 := by omega
    rw [e]
    assumption
  · exact this.mono (tb_mono8 x.length (by omega) y.length nlt (by omega))⟩
theorem chain_mb : ∀ (n : Nat) (x y : List Int), Pr x y → (∀ p ∈ chainT n x y, Mb p) ∧ (chainT n x y).length + 1 ≤ y.length
  | 0, x, y, h => ⟨(fun _ m => nomatch m), by have := List.length_pos_iff.mpr h.y0; simp [chainT]; omega⟩
  | n + 1, x, y, h => by
    rw [chainT]
    by_cases r0 : restP x y = []
    · rw [if_pos r0]
      exact ⟨(fun _ m => nomatch m), by have := List.length_pos_iff.mpr h.y0; simp; omega⟩
    · rw [if_neg r0]
      have hs := h.step r0
      obtain ⟨h1, h2⟩ := chain_mb n y (negP (restP x y)) hs
      have lt := hs.lt
      refine ⟨fun p m => ?_, by simp only [List.length_cons]; omega⟩
      rcases List.mem_cons.mp m with rfl | m
      · exact hs.my
      · exact h1 p m
theorem row_mb {l : List Int} (l0 : l ≠ []) (hl : l.length ≤ 8) (h : Bd 1000000 l) (z : l.getLast? ≠ some 0) : (∀ p ∈ rowOf l, Mb p) ∧ (rowOf l).length ≤ 8 := by
  have t1 : ∀ n : Nat, n < 9 → 20 ≤ tb n := by decide
  have ml : Mb l := ⟨hl, l0, z, fun c m => (h.sm (k := 20) (by decide) c m).mono (t1 _ (by omega))⟩
  unfold rowOf
  by_cases hn : 1 < l.length
  · rw [if_pos hn]
    have hs := Pr.start hn hl h z
    obtain ⟨h1, h2⟩ := chain_mb l.length l (slopeP l) hs
    have := hs.lt
    refine ⟨fun p m => ?_, by simp only [List.length_cons]; omega⟩
    rcases List.mem_cons.mp m with rfl | m
    · exact ml
    · rcases List.mem_cons.mp m with rfl | m
      · exact hs.my
      · exact h1 p m
  · rw [if_neg hn]
    refine ⟨fun p m => ?_, by simp⟩
    rcases List.mem_cons.mp m with rfl | m
    · exact ml
    · cases m
theorem chain_stop {x y : List Int} (y0 : y ≠ []) (h : y.length ≤ 1) (n : Nat) : chainT n x y = [] := by
  cases n with
  | zero => rfl
  | succ n =>
    have := restP_lt (l := x) y0
    rw [chainT, if_pos (List.eq_nil_of_length_eq_zero (by omega))]
end DL

namespace DL
open PySem PySem.Spec PyProof.Rows L2
/-! ### signs and their turns -/
def sgnI (i : Int) : Int := if 0 < i then 1 else if i < 0 then -1 else 0
def dS : Option Rat → DD
  | none => .non
  | some q => rT q
def nzI (l : List Int) : List Int := l.filter fun i => decide (i ≠ 0)
def fnz (p : List Int) : Int := (nzI p).headD 0
def signE (p : List Int) : Option Rat → Int
  | none => sgnI (lastI p)
  | some q => if q = 0 then sgnI (fnz p) else sgnI (evalR p q).num
theorem sgn_divInt {a b : Int} (hb : 0 < b) : sgnI (Rat.divInt a b).num = sgnI a := by
  have b0 : (b : Rat) ≠ 0 := by have : b ≠ 0 := by omega
                                exact_mod_cast this
  have bp : (0 : Rat) < (b : Rat) := by exact_mod_cast hb
  have e : Rat.divInt a b * (b : Rat) = (a : Rat) := by rw [Rat.divInt_eq_div]; grind
  generalize Rat.divInt a b = q at *
  unfold sgnI
  rcases Int.lt_trichotomy q.num 0 with h | h | h
  · have hq : q < 0 := by
      have : ¬ 0 ≤ q := fun z => by have := Rat.num_nonneg.mpr z; omega
      exact Rat.not_le.mp this
    have ha : (a : Rat) < 0 := by
      rw [← e]
      have : 0 < -q * (b : Rat) := Rat.mul_pos (by grind) bp
      grind
    have : a < 0 := by exact_mod_cast ha
    rw [if_neg (by omega), if_pos h, if_neg (by omega), if_pos this]
  · have hq : q = 0 := by exact Rat.num_eq_zero.mp h
    have : (a : Rat) = 0 := by rw [← e, hq]; grind
    have : a = 0 := by exact_mod_cast this
    rw [h, this]
  · have hq : 0 < q := by
      have : 0 ≤ q := Rat.num_nonneg.mp (by omega)
      have : q ≠ 0 := fun z => by rw [z] at h; simp at h
      grind
    have ha : (0 : Rat) < a := by rw [← e]; exact Rat.mul_pos hq bp
    have : 0 < a := by exact_mod_cast ha
    rw [if_pos h, if_pos this]
theorem parts_sgn (l : List Int) (x : Rat) : sgnI (partsP l x).1 = sgnI (evalR l x).num := by
  rw [← partsP_eval, sgn_divInt]
  rw [partsP_den]
  exact Int.pow_pos (by have := x.den_pos; omega)
theorem eqD_r0 (q : Rat) : eqD (rT q) (.tup [.int 0, .int 1]) = decide (q = 0) := by
  have e : eqD (rT q) (.tup [.int 0, .int 1]) = decide ([q.num, (q.den : Int)] = [0, 1]) := eqD_tint (l := [q.num, (q.den : Int)]) (m := [0, 1])
  rw [e]
  by_cases h : q = 0
  · subst h; rfl
  · have : q.num ≠ 0 := fun z => h (Rat.num_eq_zero.mp z)
    simp [h, this]
theorem okD_rT (q : Rat) : okD (rT q) = true := okD_tint (l := [q.num, (q.den : Int)])
theorem nz_last {p : List Int} (z : p.getLast? ≠ some 0) : (nzI p).getLast? = p.getLast? := by
  by_cases h : p = []
  · subst h; rfl
  · rw [← List.dropLast_concat_getLast h] at z ⊢
    generalize p.dropLast = q at *
    generalize p.getLast h = a at *
    have : a ≠ 0 := fun e => z (by simp [e])
    simp [nzI, this]
theorem nz_nil {p : List Int} (z : p.getLast? ≠ some 0) : nzI p = [] ↔ p = [] := by
  constructor
  · intro h
    have := nz_last z
    rw [h] at this
    simpa using this.symm
  · rintro rfl; rfl
theorem fnz_ne {p : List Int} (z : p.getLast? ≠ some 0) (p0 : p ≠ []) : fnz p ≠ 0 := by
  unfold fnz
  obtain ⟨a, r, e⟩ := List.exists_cons_of_ne_nil (fun e => p0 ((nz_nil z).mp e))
  have m : a ∈ nzI p := by rw [e]; exact List.mem_cons_self
  rw [e]
  simpa [nzI] using (List.mem_filter.mp m).2
/-- the turns of a row of signs -/
def tk (s : List Int) (n : Nat) : Nat := ((List.range n).filter fun k => decide (0 < k) && decide (s.getD k 0 ≠ s.getD (k - 1) 0)).length
theorem tk_succ (s : List Int) (n : Nat) : tk s (n + 1) = tk s n + if 0 < n ∧ s.getD n 0 ≠ s.getD (n - 1) 0 then 1 else 0 := by
  unfold tk
  rw [List.range_succ, List.filter_append, List.length_append]
  by_cases h : 0 < n ∧ s.getD n 0 ≠ s.getD (n - 1) 0
  · rw [if_pos h]
    rw [List.filter_cons_of_pos (by simpa using h)]
    rfl
  · rw [if_neg h]
    simp [h]
    intro a
    simpa using fun e => h ⟨a, e⟩
def turnsP (ps : List (List Int)) (sp : Option Rat) : Nat := tk (nzI (ps.map fun p => signE p sp)) (nzI (ps.map fun p => signE p sp)).length
/-- what a polynomial must be for a sign -/
structure Ev (p : List Int) : Prop where
  n : p.length ≤ 8
  z : p.getLast? ≠ some 0
  b : ∀ c ∈ p, Sm (tb p.length) c
theorem Mb.ev {p : List Int} (h : Mb p) : Ev p := ⟨h.n, h.z, h.b⟩
theorem PL.ev {p : List Int} (h : PL p) : Ev p := ⟨h.n, h.z, fun c m => (h.b.sm (k := 20) (by decide) c m).mono ((show ∀ n : Nat, n < 9 → 20 ≤ tb n by decide) _ (by have := h.n; omega))⟩
theorem tb_ev {n : Nat} (h : n ≤ 8) : (tb n + 52 + 2) * (n + 1) ≤ 8000 := (show ∀ n : Nat, n < 9 → (tb n + 52 + 2) * (n + 1) ≤ 8000 by decide) n (by omega)
theorem Ev.sm {p : List Int} (h : Ev p) : ∀ c ∈ p, Sm 1650 c := fun c m => (h.b c m).mono ((show ∀ n : Nat, n < 9 → tb n ≤ 1650 by decide) _ (by have := h.n; omega))
/-- a comprehension with a condition -/
theorem lc_filt {fg : FG} {ft : FT} {fe : FE} {vs : List Nat} {ds : List DD} {Q : SV → Rho → Prop} {ρ1 : Rho} (p : DD → Bool) (g : DD → SV) (hl : ds.length ≤ sizeLine) (hp : plainB ρ1 vs = true)
    (hs : ∀ d ∈ ds, ∀ (R : SV → Rho → Prop) (S : Rho → Prop), (p d = true → R (g d) ρ1) → (p d = false → S ρ1) → fg d (wipeR ρ1 vs) fun ρ2 => ft ρ2 fun b ρ3 => if b = true then fe ρ3 fun r ρ4 => R r (unwipe ρ4 ρ1 vs) else S (unwipe ρ3 ρ1 vs))
    (hd : Q (.own ((ds.filter p).map g)) ρ1) : lcB fg ft fe vs ds Q ρ1 := by
  refine lc_inv (fun i acc ρ => ρ = ρ1 ∧ acc = ((ds.take i).filter p).map g) ⟨rfl, rfl⟩ ?_ ?_
  · rintro i d acc ρ hi ⟨rfl, rfl⟩
    refine ⟨hp, ?_⟩
    have hlt := (List.getElem?_eq_some_iff.mp hi).1
    have lf := List.length_filter_le p (ds.take i)
    have lt : (ds.take i).length ≤ i := by simp; omega
    exact hs d (List.mem_of_getElem? hi) (fun r ρ' => (((ds.take i).filter p).map g).length < sizeLine ∧ ρ' = ρ ∧ ((ds.take i).filter p).map g ++ [r] = ((ds.take (i + 1)).filter p).map g) (fun ρ' => ρ' = ρ ∧ ((ds.take i).filter p).map g = ((ds.take (i + 1)).filter p).map g)
      (fun e => ⟨by rw [List.length_map]; omega, rfl, by rw [List.take_add_one, hi]; simp [e]⟩) (fun e => ⟨rfl, by rw [List.take_add_one, hi]; simp [e]⟩)
  · rintro acc ρ ⟨rfl, rfl⟩
    rw [List.take_length]
    exact hd
def nzD : DD → Bool
  | .int i => decide (i ≠ 0)
  | _ => false
theorem nzD_all (l : List Int) : ((l.map DD.int).filter nzD).map SV.dat = tI (nzI l) := by
  induction l with
  | nil => rfl
  | cons a l ih =>
    by_cases h : a = 0
    · subst h
      simpa [nzD, nzI] using ih
    · simp only [List.map_cons, nzI]
      rw [List.filter_cons_of_pos (by simp [nzD, h]), List.filter_cons_of_pos (by simp [h]), List.map_cons, ih]
      rfl
def dL (ps : List (List Int)) : DD := .lst (ps.map dI)
def oL (ps : List (List Int)) : SV := .own (ps.map oI)
theorem oL_data (ps : List (List Int)) : (oL ps).data = dL ps := by
  unfold oL dL
  simp only [data_own, SV.datas_eq, List.map_map]
  congr 1
  exact List.map_congr_left fun p _ => oI_data p
@[simp] theorem isN_rT (q : Rat) : isN (rT q) = false := rfl
@[simp] theorem tld_rT (q : Rat) : tld (rT q) = true := rfl
theorem ints_last (p : List Int) (h : p ≠ []) : atI (p.map DD.int) (-1) = some (.int (lastI p)) := by
  rw [atI_mapI, atI_end, last_getD, if_neg h]
  rfl
def mulD : DD → SV
  | .tup [.int a, .int b] => .dat (.int (a * b))
  | _ => .dat .non
theorem mulD_all (l : List Int) : (enumD (l.map .int)).map mulD = tI (rk 0 l) := by
  have key : ∀ (l : List Int) (k : Nat), ((l.map DD.int).zipIdx k).map (fun p => mulD (DD.tup [.int (p.2 : Nat), p.1])) = tI (rk k l) := by
    intro l
    induction l with
    | nil => intro k; rfl
    | cons a l ih =>
      intro k
      rw [List.map_cons, List.zipIdx_cons, List.map_cons, ih (k + 1)]
      rfl
  unfold enumD
  rw [List.map_map]
  exact key l 0
theorem enumI_mem {l : List Int} {d : DD} (h : d ∈ enumD (l.map .int)) : ∃ (i : Nat) (a : Int), l[i]? = some a ∧ d = .tup [.int i, .int a] := by
  obtain ⟨i, hi⟩ := List.mem_iff_getElem?.mp h
  obtain ⟨a, h1, h2⟩ := enumI_get hi
  exact ⟨i, a, h1, h2⟩
theorem cut_from1 {α : Type} {l : List α} : DL.cutD l (some 1) none = l.drop 1 := cut_from (n := 1)

theorem atI_two {α : Type} (l : List α) (x y : α) : atI (l ++ [x, y]) (-2) = some x := by
  unfold atI ixN
  have e : ((-2 : Int) + ((l ++ [x, y]).length : Int)).toNat = l.length := by simp; omega
  have h : (2 : Int) ≤ (l ++ [x, y]).length := by simp; omega
  simp at e h
  rw [if_neg (by omega), if_pos (by simp; omega)]
  simp [e]
theorem atI_one2 {α : Type} (l : List α) (x y : α) : atI (l ++ [x, y]) (-1) = some y := by
  rw [atI_end]
  simp
theorem Pr.sz {x y : List Int} (h : Pr x y) : tb x.length ≤ 8000 ∧ (if y.length ≤ 1 then 23 else tb (x.length - 1)) ≤ 8000 ∧ tb x.length + 2 * (((if y.length ≤ 1 then 23 else tb (x.length - 1)) + 1) * (x.length + 1 - y.length)) ≤ 8000 := by
  have key : ∀ a : Nat, a < 9 → ∀ b : Nat, b < a → 1 ≤ b → tb a ≤ 8000 ∧ (if b ≤ 1 then 23 else tb (a - 1)) ≤ 8000 ∧ tb a + 2 * (((if b ≤ 1 then 23 else tb (a - 1)) + 1) * (a + 1 - b)) ≤ 8000 := by decide
  exact key _ (by have := h.n; omega) _ h.lt (List.length_pos_iff.mpr h.y0)
def negN : DD → SV
  | .int a => .dat (.int (-a))
  | _ => .dat .non
theorem negN_all (l : List Int) : (l.map DD.int).map negN = tI (negP l) := by simp [negN, tI, negP]
def negZ : DD → SV
  | .int a => .dat (.int (0 - a))
  | _ => .dat .non
theorem negZ_all (l : List Int) : (l.map DD.int).map negZ = tI (negP l) := by simp [negZ, tI, negP]
def unI : DD → List Int
  | .lst ds => ds.map fun d => match d with
    | .int a => a
    | _ => 0
  | _ => []
@[simp] theorem unI_dI (l : List Int) : unI (dI l) = l := by
  unfold unI dI
  induction l with
  | nil => rfl
  | cons a l ih => simpa using ih
def sgD (sp : Option Rat) (d : DD) : SV := .dat (.int (signE (unI d) sp))
theorem sgD_all (ps : List (List Int)) (sp : Option Rat) : (ps.map dI).map (sgD sp) = tI (ps.map fun p => signE p sp) := by
  simp [sgD, tI, Function.comp_def]
theorem tk_one (s : List Int) : tk s 1 = tk s 0 := by rw [tk_succ]; simp
theorem tk_end (s : List Int) (n : Nat) : tk s (n - 1 + 1) = tk s n := by
  cases n with
  | zero => exact tk_one s
  | succ n => rfl
theorem rg1_get {n i : Nat} {d : DD} (h : (rgD 1 1 n)[i]? = some d) : d = .int ((i + 1 : Nat) : Int) ∧ i < n := by
  unfold rgD at h
  rw [List.getElem?_map] at h
  by_cases hi : i < n
  · rw [List.getElem?_range hi] at h
    simp at h
    exact ⟨by rw [← h]; congr 1; omega, hi⟩
  · rw [List.getElem?_eq_none (by simpa using hi)] at h
    cases h
theorem ints_at {s : List Int} {k : Nat} (h : k < s.length) : atI (s.map DD.int) (k : Int) = some (.int (s.getD k 0)) := by
  rw [atI_mapI, atI_nat h, List.getD_eq_getElem?_getD, List.getElem?_eq_getElem h]
  rfl
theorem tk_le (s : List Int) (n : Nat) : tk s n ≤ n := by
  unfold tk
  have := List.length_filter_le (fun k => decide (0 < k) && decide (s.getD k 0 ≠ s.getD (k - 1) 0)) (List.range n)
  rw [List.length_range] at this
  exact this
theorem own_len {acc : List SV} : (SV.datas acc).length = acc.length := by rw [SV.datas_eq, List.length_map]
end DL

namespace DL
open PySem PySem.Spec PyProof.Rows L2
/-! ### the law's fractions, whatever the sizes -/
def FbG (L : Int) (A B s : Nat) (F : List Rat) : Prop := ∀ j : Nat, ∃ n : Int, Sm (A + (B + 1) * s) n ∧ F.getD j 0 = Rat.divInt n (L ^ s)
theorem den_le {a b : Int} (h : b ≠ 0) {k : Nat} (hb : Sm k b) : Sm k ((Rat.divInt a b).den : Int) := by
  rw [Rat.den_divInt, if_neg h]
  exact hb.le (by simp only [Int.natAbs_natCast]; exact Nat.div_le_self _ _)
theorem den_mul (x y : Rat) {k l : Nat} (hx : Sm k (x.den : Int)) (hy : Sm l (y.den : Int)) : Sm (k + l) ((x * y).den : Int) := by
  rw [← rat_mul]
  refine den_le ?_ (hx.mul hy)
  exact Int.mul_ne_zero (rden x) (rden y)
theorem FbG.qb {L : Int} {A B s : Nat} {F : List Rat} (h : FbG L A B s F) (l0 : L ≠ 0) (sl : Sm B L) (j : Nat) : Qb (A + (B + 1) * s + 1) (F.getD j 0) := by
  obtain ⟨n, sn, e⟩ := h j
  rw [e]
  refine Qb.of (sn.mono (by omega)) ((sl.pow s).mono ?_) (Int.pow_ne_zero l0)
  rw [Nat.add_mul]
  omega
theorem FbG.dn {L : Int} {A B s : Nat} {F : List Rat} (h : FbG L A B s F) (l0 : L ≠ 0) (sl : Sm B L) (j : Nat) : Sm (B * s + 1) ((F.getD j 0).den : Int) := by
  obtain ⟨n, sn, e⟩ := h j
  rw [e]
  exact den_le (Int.pow_ne_zero l0) (sl.pow s)
theorem FbG.start {L : Int} {A B : Nat} {l : List Int} (h : ∀ c ∈ l, Sm A c) : FbG L A B 0 (l.map fun i : Int => (i : Rat)) := fun j => by
  refine ⟨l.getD j 0, ?_, ?_⟩
  · rw [Nat.mul_zero, Nat.add_zero]; exact getD_sm j h
  · rw [getD_map (fun i : Int => (i : Rat)) 0 0 Rat.intCast_zero, Rat.divInt_eq_div, Int.pow_zero, Rat.intCast_one]
    grind
theorem FbG.step {o : List Int} {A B s : Nat} {F : List Rat} (h : FbG (lastI o) A B s F) (l0 : lastI o ≠ 0) (bo : ∀ c ∈ o, Sm B c) (hk : o.length ≤ F.length) : FbG (lastI o) A B (s + 1) (lStep o F) := fun j => by
  have lz : (lastI o : Rat) ≠ 0 := by exact_mod_cast l0
  have pz : (((lastI o) ^ s : Int) : Rat) ≠ 0 := by exact_mod_cast Int.pow_ne_zero l0
  have sl : Sm B (lastI o) := getD_sm _ bo
  obtain ⟨n, sn, en⟩ := h j
  obtain ⟨t, st, et⟩ := h (F.length - 1)
  have eT : lastQ F = Rat.divInt t (lastI o ^ s) := et
  rw [lStep_get hk, eT, en]
  have gm : ∀ k : Nat, Sm B (o.getD k 0) := fun k => getD_sm k bo
  have e1 : A + (B + 1) * (s + 1) = A + (B + 1) * s + (B + 1) := by rw [Nat.mul_succ]; omega
  rw [Rat.divInt_eq_div, Rat.divInt_eq_div, e1]
  by_cases h1 : j < F.length - 1
  · rw [if_pos h1]
    by_cases h2 : j < F.length - o.length
    · rw [if_pos h2]
      refine ⟨lastI o * n, (sl.mul sn).mono (by omega), ?_⟩
      rw [Rat.divInt_eq_div, Int.pow_succ, Rat.intCast_mul, Rat.intCast_mul]
      generalize (((lastI o) ^ s : Int) : Rat) = w at *
      generalize (lastI o : Rat) = l at *
      grind
    · rw [if_neg h2]
      refine ⟨lastI o * n - t * o.getD (j - (F.length - o.length)) 0, (Sm.sub (sl.mul sn) (st.mul (gm _))).mono (by omega), ?_⟩
      rw [Rat.divInt_eq_div, Int.pow_succ, Rat.intCast_mul, Rat.intCast_sub, Rat.intCast_mul, Rat.intCast_mul]
      generalize (((lastI o) ^ s : Int) : Rat) = w at *
      generalize (lastI o : Rat) = l at *
      generalize ((o.getD (j - (F.length - o.length)) 0 : Int) : Rat) = b at *
      grind
  · rw [if_neg h1]
    refine ⟨0, smc (by simp; exact Nat.pow_pos (by decide)), ?_⟩
    rw [Rat.divInt_eq_div, Rat.intCast_zero, Rat.div_def, Rat.zero_mul]
theorem FbG.den {L : Int} {A B s : Nat} {F : List Rat} (h : FbG L A B s F) (l0 : L ≠ 0) (j : Nat) : (F.getD j 0).den ∣ (L ^ s).natAbs := by
  obtain ⟨n, _, e⟩ := h j
  rw [e, Rat.den_divInt, if_neg (Int.pow_ne_zero l0)]
  exact Nat.div_dvd_of_dvd (Nat.gcd_dvd_left _ _)
theorem up_le {x : Rat} {n P : Int} {M : Nat} (e : x = Rat.divInt n P) (p0 : P ≠ 0) (h1 : x.den ∣ M) (h2 : M ∣ P.natAbs) : (x.num * ((M / x.den : Nat) : Int)).natAbs ≤ n.natAbs := by
  obtain ⟨u, hu⟩ := h1
  obtain ⟨t, ht⟩ := h2
  have hd := x.den_pos
  have pn : 0 < P.natAbs := by omega
  have t0 : 0 < t := by
    rcases Nat.eq_zero_or_pos t with z | z
    · subst z; simp at ht; omega
    · exact z
  have e2 : M / x.den = u := by rw [hu, Nat.mul_div_cancel_left _ hd]
  have key : x.num * P = n * (x.den : Int) := by
    have pz : (P : Rat) ≠ 0 := by exact_mod_cast p0
    have dz : (((x.den : Int)) : Rat) ≠ 0 := by exact_mod_cast (rden x)
    have d := rat_dn x
    have d2 : (((x.den : Int)) : Rat) = (x.den : Rat) := rfl
    have : ((x.num * P : Int) : Rat) = ((n * (x.den : Int) : Int) : Rat) := by
      rw [Rat.intCast_mul, Rat.intCast_mul, d2]
      rw [Rat.divInt_eq_div] at e
      generalize (x.num : Rat) = a at *
      generalize (x.den : Rat) = b at *
      generalize (P : Rat) = p at *
      generalize (n : Rat) = c at *
      grind
    exact_mod_cast this
  have k2 : x.num.natAbs * P.natAbs = n.natAbs * x.den := by
    have := congrArg Int.natAbs key
    simpa only [Int.natAbs_mul, Int.natAbs_natCast] using this
  rw [e2, Int.natAbs_mul, Int.natAbs_natCast]
  rw [ht, hu] at k2
  have k3 : x.num.natAbs * u * t = n.natAbs := by
    apply Nat.eq_of_mul_eq_mul_right hd
    rw [← k2]
    generalize x.num.natAbs = a
    generalize x.den = b
    grind
  rw [← k3]
  exact Nat.le_mul_of_pos_right _ t0
theorem FbG.up {L : Int} {A B s M : Nat} {F : List Rat} (h : FbG L A B s F) (l0 : L ≠ 0) (hM : M ∣ (L ^ s).natAbs) (hx : ∀ x ∈ F, x.den ∣ M) : ∀ c ∈ upQ M F, Sm (A + (B + 1) * s) c := fun c m => by
  obtain ⟨x, hx2, rfl⟩ := List.mem_map.mp m
  obtain ⟨j, hj, e⟩ := List.getElem_of_mem hx2
  obtain ⟨n, sn, en⟩ := h j
  rw [List.getD_eq_getElem?_getD, List.getElem?_eq_getElem hj] at en
  have en2 : x = Rat.divInt n (L ^ s) := by rw [← e]; exact en
  exact sn.le (up_le en2 (Int.pow_ne_zero l0) (hx x hx2) hM)
/-- the denominator of what a polynomial is -/
theorem eval_den {B : Nat} {x : Rat} (hx : Qb B x) (l : List Int) : Sm (B * (l.length - 1) + 1) ((evalR l x).den : Int) := by
  rw [← partsP_eval]
  refine den_le (partsP_ne l x) ?_
  rw [partsP_den]
  exact hx.d.pow _
theorem pow_den {B : Nat} {x : Rat} (hx : Qb B x) : ∀ i : Nat, Sm (B * i + 1) ((x ^ i).den : Int)
  | 0 => by simp; exact smc (by simp)
  | i + 1 => by
    rw [Rat.pow_succ, Nat.mul_succ]
    exact (den_mul _ _ (pow_den hx i) hx.d).mono (by omega)
end DL

namespace DL
open PySem PySem.Spec PyProof.Rows L2
/-! ### the sum of a polynomial's numbers without their signs -/
def nrm : List Int → Nat
  | [] => 0
  | a :: l => a.natAbs + nrm l
theorem nrm_mem {l : List Int} {c : Int} (h : c ∈ l) : c.natAbs ≤ nrm l := by
  induction l with
  | nil => cases h
  | cons a l ih =>
    rw [nrm]
    rcases List.mem_cons.mp h with rfl | h
    · omega
    · have := ih h; omega
theorem nrm_bump : ∀ (f : List Int) (k : Nat) (v : Int), nrm (bump f k v) ≤ nrm f + v.natAbs
  | [], k, v => by simp [bump, nrm]
  | a :: f, 0, v => by
    simp only [bump, List.getD_cons_zero, List.set_cons_zero, nrm]
    omega
  | a :: f, k + 1, v => by
    have := nrm_bump f k v
    simp only [bump, List.getD_cons_succ, List.set_cons_succ, nrm] at this ⊢
    omega
theorem nrm_row (a : Int) : ∀ (k : Nat) (m f : List Int), nrm (rowP a k m f) ≤ nrm f + a.natAbs * nrm m
  | k, [], f => by rw [rowP]; omega
  | k, b :: m, f => by
    rw [rowP, nrm, Nat.mul_add]
    have h1 := nrm_row a (k + 1) m (bump f k (a * b))
    have h2 := nrm_bump f k (a * b)
    rw [Int.natAbs_mul] at h2
    omega
theorem nrm_mulG (m : List Int) : ∀ (k : Nat) (l f : List Int), nrm (mulG m k l f) ≤ nrm f + nrm l * nrm m
  | k, [], f => by rw [mulG]; omega
  | k, a :: l, f => by
    rw [mulG, nrm, Nat.add_mul]
    have h1 := nrm_mulG m (k + 1) l (rowP a k m f)
    have h2 := nrm_row a k m f
    omega
theorem nrm_zeros : ∀ n : Nat, nrm (List.replicate n 0) = 0
  | 0 => rfl
  | n + 1 => by rw [List.replicate_succ, nrm, nrm_zeros n]; rfl
theorem nrm_mul (l m : List Int) : nrm (mulP l m) ≤ nrm l * nrm m := by
  unfold mulP
  have := nrm_mulG m 0 l (List.replicate (l.length + m.length - 1) 0)
  rw [nrm_zeros] at this
  omega
theorem nrm_sum : ∀ l : List Int, (l.map fun a => (a.natAbs : Int)).sum = (nrm l : Int)
  | [] => rfl
  | a :: l => by rw [List.map_cons, List.sum_cons, nrm_sum l, nrm]; omega
/-- plain data of no great depth -/
def Pd (n : Nat) (d : DD) : Prop := d.pure = true ∧ d.py.canLay0 = true ∧ d.py.depth ≤ n
theorem Pd.int (n : Nat) (i : Int) : Pd n (.int i) := ⟨rfl, rfl, Nat.zero_le _⟩
theorem Pd.all {n : Nat} : ∀ {ds : List DD}, (∀ d ∈ ds, Pd n d) → DD.pures ds = true ∧ PyData.canLayAll0 (DD.pys ds) = true ∧ PyData.depthAll (DD.pys ds) ≤ n
  | [], _ => ⟨rfl, rfl, Nat.zero_le _⟩
  | d :: r, h => by
    obtain ⟨a, b, c⟩ := Pd.all fun x m => h x (List.mem_cons_of_mem _ m)
    obtain ⟨a1, b1, c1⟩ := h d List.mem_cons_self
    refine ⟨by simp [DD.pures, a, a1], by simp [DD.pys, PyData.canLayAll0, b, b1], ?_⟩
    simp only [DD.pys, PyData.depthAll]
    omega
theorem Pd.lst {n : Nat} {ds : List DD} (h : ∀ d ∈ ds, Pd n d) : Pd (n + 1) (.lst ds) := by
  obtain ⟨a, b, c⟩ := Pd.all h
  exact ⟨a, b, Nat.succ_le_succ c⟩
theorem Pd.tup {n : Nat} {ds : List DD} (h : ∀ d ∈ ds, Pd n d) : Pd (n + 1) (.tup ds) := by
  obtain ⟨a, b, c⟩ := Pd.all h
  exact ⟨a, b, Nat.succ_le_succ c⟩
theorem Pd.mono {n m : Nat} {d : DD} (h : Pd n d) (l : n ≤ m) : Pd m d := ⟨h.1, h.2.1, Nat.le_trans h.2.2 l⟩
theorem Pd.okD {n : Nat} {d : DD} (h : Pd n d) (l : n ≤ 64) : okD d = true := by
  have := h.2.2
  simp [DL.okD, h.1, SeqAt.shaped, h.2.1]
  omega
theorem eqD_nil (ds : List DD) : eqD (.lst ds) (.lst []) = decide (ds = []) := by
  cases ds with
  | nil => rfl
  | cons d r => simp [eqD, DD.py, DD.pys, PyData.eqv, PyData.eqvAll]
/-- a factor: a polynomial and something told of it -/
structure Fc where
  p : List Int
  r : DD
def Fc.d (x : Fc) : DD := .tup [dI x.p, x.r]
def Fc.ok (x : Fc) : Prop := 2 ≤ x.p.length ∧ x.p.length ≤ 6 ∧ Bd 70 x.p ∧ x.p.getLast? ≠ some 0 ∧ Pd 3 x.r
theorem Fc.pd {x : Fc} (h : x.ok) : Pd 4 x.d := Pd.tup fun d m => by
  simp at m
  rcases m with rfl | rfl
  · exact (Pd.lst (n := 0) fun d m => by
      obtain ⟨a, _, rfl⟩ := List.mem_map.mp m
      exact Pd.int _ _).mono (by decide)
  · exact h.2.2.2.2
def degs : List Fc → Nat
  | [] => 0
  | x :: xs => x.p.length - 1 + degs xs
def wts : List Fc → Nat
  | [] => 1
  | x :: xs => nrm x.p * wts xs
theorem degs_snoc (xs : List Fc) (x : Fc) : degs (xs ++ [x]) = degs xs + (x.p.length - 1) := by
  induction xs with
  | nil => simp [degs]
  | cons y ys ih => rw [List.cons_append, degs, degs, ih]; omega
theorem wts_snoc (xs : List Fc) (x : Fc) : wts (xs ++ [x]) = wts xs * nrm x.p := by
  induction xs with
  | nil => simp [wts]
  | cons y ys ih => rw [List.cons_append, wts, wts, ih, Nat.mul_assoc]
def absD : DD → SV
  | .int a => .dat (.int a.natAbs)
  | _ => .dat .non
theorem absD_all (l : List Int) : (l.map DD.int).map absD = (l.map fun a => (a.natAbs : Int)).map fun a => SV.dat (.int a) := by simp [absD]
/-- the row of sums of a product -/
structure Fk (b : Int) (xs : List Fc) (f : List Int) : Prop where
  n : f.length = 1 + degs xs
  z : f.getLast? ≠ some 0
  w : nrm f ≤ b.natAbs * wts xs
theorem Fk.f0 {b : Int} {xs : List Fc} {f : List Int} (h : Fk b xs f) : f ≠ [] := fun e => by
  have := h.n
  rw [e] at this
  simp at this
  omega
theorem Fk.step {b : Int} {xs : List Fc} {f : List Int} (h : Fk b xs f) {x : Fc} (hx : x.ok) : Fk b (xs ++ [x]) (trim (mulP f x.p)) := by
  have p0 : x.p ≠ [] := fun e => by
    have := hx.1
    rw [e] at this
    simp at this
  have e := mulP_trim h.z hx.2.2.2.1
  rw [if_neg (by simp [h.f0, p0])] at e
  rw [e]
  refine ⟨?_, mulP_last h.f0 p0 h.z hx.2.2.2.1, ?_⟩
  · rw [mulP_len, degs_snoc, h.n]
    have := hx.1
    omega
  · rw [wts_snoc, ← Nat.mul_assoc]
    exact Nat.le_trans (nrm_mul _ _) (Nat.mul_le_mul_right _ h.w)
theorem degs_take : ∀ (xs : List Fc) (n : Nat), degs (xs.take n) ≤ degs xs
  | [], n => by simp
  | x :: xs, 0 => by simp [degs]
  | x :: xs, n + 1 => by
    have := degs_take xs n
    simp only [List.take_succ_cons, degs]
    omega
theorem nrm_pos {x : Fc} (h : x.ok) : 1 ≤ nrm x.p := by
  have p0 : x.p ≠ [] := fun e => by
    have := h.1
    rw [e] at this
    simp at this
  have z := last_ne p0 h.2.2.2.1
  have m : lastI x.p ∈ x.p := by
    have p := List.length_pos_iff.mpr p0
    unfold lastI
    rw [List.getD_eq_getElem?_getD, List.getElem?_eq_getElem (by omega)]
    exact List.getElem_mem _
  have := nrm_mem m
  omega
theorem wts_take : ∀ (xs : List Fc) (n : Nat), (∀ x ∈ xs, x.ok) → wts (xs.take n) ≤ wts xs ∧ 1 ≤ wts xs
  | [], n, _ => by simp [wts]
  | x :: xs, 0, h => by
    have := (wts_take xs 0 fun y m => h y (List.mem_cons_of_mem _ m)).2
    have := Nat.mul_le_mul (nrm_pos (h x List.mem_cons_self)) this
    simp only [List.take_zero, wts]
    omega
  | x :: xs, n + 1, h => by
    obtain ⟨h1, h2⟩ := wts_take xs n fun y m => h y (List.mem_cons_of_mem _ m)
    have := Nat.mul_le_mul (nrm_pos (h x List.mem_cons_self)) h2
    simp only [List.take_succ_cons, wts]
    exact ⟨Nat.mul_le_mul_left _ h1, by omega⟩
theorem Fk.pl {b : Int} {xs : List Fc} {f : List Int} (h : Fk b xs f) (hb : b.natAbs ≤ 3) (hd : degs xs ≤ 7) (hw : 3 * wts xs ≤ 1000000) : PL f :=
  ⟨by rw [h.n]; omega, fun c m => by
    have h1 := nrm_mem m
    have h2 := h.w
    have h3 := Nat.mul_le_mul_right (wts xs) hb
    show c.natAbs ≤ 1000000
    omega, h.z⟩
/-- rows of polynomials, told -/
theorem okR_dL {ps : List (List Int)} (hn : ps.length ≤ 100) (h : ∀ p ∈ ps, Ev p) : okR (dL ps) := by
  refine (Rz.lst (n := 8 * 1923 + 3) (D := 1) fun d m => ?_).ok (by
    rw [List.length_map]
    have := Nat.mul_le_mul_right (8 * 1923 + 3 + 2) hn
    omega) (by decide)
  obtain ⟨p, hp, rfl⟩ := List.mem_map.mp m
  have e := h p hp
  exact (Rz.ints fun c m => (e.sm c m).mono (by decide)).mono (by have := Nat.mul_le_mul_right 1923 e.n; omega) (Nat.le_refl _)
theorem oL_itm (ps : List (List Int)) : oL ps = .own ((ps.map Itm.L).map Itm.t) := by
  unfold oL
  rw [List.map_map]
  rfl
theorem dL_itm (ps : List (List Int)) : dL ps = .lst ((ps.map Itm.L).map Itm.d) := by
  unfold dL
  rw [List.map_map]
  rfl
theorem num_bd {u v : Int} (hu : 1 ≤ u) (hv : 1 ≤ v) : 1 ≤ (Rat.divInt u v).num ∧ (Rat.divInt u v).num ≤ u ∧ ((Rat.divInt u v).den : Int) ≤ v := by
  have v0 : v ≠ 0 := by omega
  have e1 := rat_num (a := u) v0
  have e2 := rat_den (a := u) v0
  rw [if_neg (by omega)] at e1 e2
  have g := gcd_pos (a := u) v0
  have d1 := Int.gcd_dvd_left u v
  have d2 := Int.gcd_dvd_right u v
  generalize hG : (Int.gcd u v : Int) = G at *
  rw [Int.fdiv_eq_ediv_of_nonneg _ (by omega)] at e1 e2
  rw [← e1, ← e2]
  obtain ⟨c, hc⟩ := d1
  obtain ⟨e, he⟩ := d2
  have G0 : 0 < G := by omega
  rw [hc, he, Int.mul_ediv_cancel_left _ (by omega), Int.mul_ediv_cancel_left _ (by omega)]
  have c1 : 0 < c := by
    rcases Int.lt_or_le 0 c with h | h
    · exact h
    · have := Int.mul_nonpos_of_nonneg_of_nonpos (Int.le_of_lt G0) h
      omega
  have e1 : 0 < e := by
    rcases Int.lt_or_le 0 e with h | h
    · exact h
    · have := Int.mul_nonpos_of_nonneg_of_nonpos (Int.le_of_lt G0) h
      omega
  have k1 := Int.mul_le_mul_of_nonneg_right (show (1 : Int) ≤ G by omega) (Int.le_of_lt c1)
  have k2 := Int.mul_le_mul_of_nonneg_right (show (1 : Int) ≤ G by omega) (Int.le_of_lt e1)
  exact ⟨by omega, by omega, by omega⟩
theorem datas_fc (xs : List Fc) : SV.datas (xs.map fun x => SV.dat x.d) = xs.map Fc.d := by
  rw [SV.datas_eq, List.map_map]
  exact List.map_congr_left fun x _ => data_dat _
theorem nrm_le {B : Nat} : ∀ {l : List Int}, Bd B l → nrm l ≤ l.length * B
  | [], _ => by simp [nrm]
  | a :: l, h => by
    have h1 := nrm_le fun c m => h c (List.mem_cons_of_mem _ m)
    have h2 : a.natAbs ≤ B := h a List.mem_cons_self
    rw [nrm, List.length_cons, Nat.succ_mul]
    omega
theorem nrm_len {l : List Int} (hl : l.length ≤ 6) (h : Bd 70 l) : nrm l ≤ 420 := by
  have := nrm_le h
  have := Nat.mul_le_mul_right 70 hl
  omega
theorem frac_bd {u v : Int} {B : Int} {C : Nat} (h1 : -B ≤ u) (h2 : u ≤ B) (hv : 1 ≤ v) (hc : v ≤ C) : -B ≤ (Rat.divInt u v).num ∧ (Rat.divInt u v).num ≤ B ∧ (Rat.divInt u v).den ≤ C := by
  have v0 : v ≠ 0 := by omega
  have e1 := rat_num (a := u) v0
  have e2 := rat_den (a := u) v0
  rw [if_neg (by omega)] at e1 e2
  have a1 : (u.fdiv (Int.gcd u v : Int)).natAbs ≤ u.natAbs := by
    rw [Int.fdiv_eq_ediv_of_nonneg _ (by omega)]
    exact Int.natAbs_ediv_le_natAbs _ _
  have a2 : (v.fdiv (Int.gcd u v : Int)).natAbs ≤ v.natAbs := by
    rw [Int.fdiv_eq_ediv_of_nonneg _ (by omega)]
    exact Int.natAbs_ediv_le_natAbs _ _
  rw [e1] at a1
  rw [e2] at a2
  omega
theorem if_cut {c : FT} {f g : FS} {D : DEnds} {ρ : Rho} (T E : Rho → Prop) (hc : ∀ P N : Rho → Prop, (∀ ρ, T ρ → P ρ) → (∀ ρ, E ρ → N ρ) → c ρ fun b ρ1 => if b = true then P ρ1 else N ρ1) (hf : ∀ ρ, T ρ → f D ρ) (hg : ∀ ρ, E ρ → g D ρ) : fIf c f g D ρ := hc (f D) (g D) hf hg
theorem degs_len : ∀ {xs : List Fc}, (∀ x ∈ xs, x.ok) → xs.length ≤ degs xs
  | [], _ => Nat.le_refl _
  | x :: xs, h => by
    have h1 := degs_len fun y m => h y (List.mem_cons_of_mem _ m)
    have h2 := (h x List.mem_cons_self).1
    rw [degs, List.length_cons]
    omega
end DL

namespace My
open PySem PySem.Spec PyProof.Rows L2 DL
def top (i : Nat) : Stmt := PySem.Challenge.pw_valvelevels_k05_rows_of_rests_and_turns.main.body.getD i (.Pass ⟨0, 0, 0, 0⟩)
abbrev s_divisor : Stmt := top 5
abbrev s_is_fraction : Stmt := top 6
abbrev s_check_fraction : Stmt := top 7
abbrev s_trimmed : Stmt := top 9
abbrev s_checked : Stmt := top 10
abbrev s_checked_some : Stmt := top 11
abbrev s_slope : Stmt := top 12
abbrev s_primitive : Stmt := top 13
abbrev s_rest_of : Stmt := top 14
abbrev s_parts_at : Stmt := top 15
abbrev s_sign_at : Stmt := top 16
abbrev s_row_of : Stmt := top 18
abbrev s_end_sign : Stmt := top 19
abbrev s_turns_of : Stmt := top 20
abbrev s_row : Stmt := top 22
abbrev s_turns : Stmt := top 23
abbrev s__law_pv_sack : Stmt := top 25
abbrev s__law_pv_coin : Stmt := top 26
abbrev s__law_pv_shared : Stmt := top 27
abbrev s__law_pv_ratio : Stmt := top 28
abbrev s__law_pv_add : Stmt := top 29
abbrev s__law_pv_mul : Stmt := top 30
abbrev s__law_pv_trim : Stmt := top 31
abbrev s__law_pv_product : Stmt := top 32
abbrev s__law_pv_slope : Stmt := top 33
abbrev s__law_pv_at : Stmt := top 34
abbrev s__law_pv_thin : Stmt := top 35
abbrev s__law_pv_left : Stmt := top 36
abbrev s__law_pv_chain : Stmt := top 37
abbrev s__law_pv_mark : Stmt := top 38
abbrev s__law_pv_flips : Stmt := top 39
abbrev s__law_pv_poly : Stmt := top 40
abbrev s__law_pv_any_ratio : Stmt := top 41
abbrev s__law_pv_copied : Stmt := top 42
abbrev s__law_pv_lists : Stmt := top 43
abbrev s__law_pv_marked : Stmt := top 44
abbrev s__law_pv_right : Stmt := top 45
abbrev s__law_pv_power : Stmt := top 46
abbrev s__law_pv_whole_root : Stmt := top 47
abbrev s__law_pv_number : Stmt := top 48
abbrev s__law_pv_drawn_number : Stmt := top 49
abbrev s__law_pv_base : Stmt := top 50
abbrev s__law_pv_factor : Stmt := top 51
abbrev s__law_pv_factors : Stmt := top 52
abbrev s__law_pv_multiplied : Stmt := top 53
abbrev s__law_pv_checked : Stmt := top 54
abbrev s_law : Stmt := top 55
end My
namespace My
open PySem PySem.Spec PyProof.Rows L2 DL
theorem gcd_abs (a b : Int) : Int.gcd (if a < 0 then -a else a) (if b < 0 then -b else b) = Int.gcd a b := by split <;> split <;> simp
theorem fmod_lt (x : Int) {y : Int} (h : 0 ≤ y) (z : y ≠ 0) : 0 ≤ x.fmod y ∧ (x.fmod y).toNat < y.toNat := by
  rw [Int.fmod_eq_emod_of_nonneg _ h]
  have := Int.emod_nonneg x z
  have := Int.emod_lt_of_pos x (show 0 < y by omega)
  omega
theorem gcd_fmod {x y : Int} (h0 : 0 ≤ x) (h : 0 ≤ y) : Int.gcd y (x.fmod y) = Int.gcd x y := by
  rw [Int.fmod_eq_emod_of_nonneg _ h]
  obtain ⟨m, rfl⟩ := Int.eq_ofNat_of_zero_le h0
  obtain ⟨n, rfl⟩ := Int.eq_ofNat_of_zero_le h
  rw [← Int.natCast_emod]
  show Nat.gcd n (m % n) = Nat.gcd m n
  rw [Nat.gcd_comm n, ← Nat.gcd_rec, Nat.gcd_comm]
/-- greatest common divisor -/
def cDiv : Ctr := fun as Q => ∃ a b : Int, as = [.dat (.int a), .dat (.int b)] ∧ Q (.dat (.int (Int.gcd a b))) as
/-- a fraction in lowest terms -/
def cRed : Ctr := fun as Q => ∃ a b : Int, as = [.dat (.int a), .dat (.int b)] ∧ b ≠ 0 ∧ Sm 8000 b ∧ Q (.dat (rT (Rat.divInt a b))) as
/-- a told fraction -/
def cIsF : Ctr := fun as Q => ∃ q : Rat, as = [.dat (rT q)] ∧ Q (.dat (.bl true)) as
def cChkF : Ctr := fun as Q => ∃ q : Rat, as = [.dat (rT q)] ∧ Q (.dat .non) as
def cTrim : Ctr := fun as Q => ∃ l : List Int, as = [.dat (dI l)] ∧ l.length < 2 ^ 24 ∧ Q (oI (trim l)) as
def cChk : Ctr := fun as Q => ∃ l : List Int, as = [.dat (dI l)] ∧ l.getLast? ≠ some 0 ∧ Q (.dat (dI l)) as
def cSum : Ctr := fun as Q => ∃ l m : List Int, as = [.dat (dI l), .dat (dI m)] ∧ l.length < 2 ^ 20 ∧ m.length < 2 ^ 20 ∧ Q (oI (trim (addP l m))) as
def cProd : Ctr := fun as Q => ∃ l m : List Int, as = [.dat (dI l), .dat (dI m)] ∧ l.length < 2 ^ 20 ∧ m.length < 2 ^ 20 ∧ (∀ c ∈ l, Sm 5000 c) ∧ (∀ c ∈ m, Sm 5000 c) ∧ Q (oI (if l = [] ∨ m = [] then [] else mulP l m)) as
def cParts : Ctr := fun as Q => ∃ (l : List Int) (x : Rat) (A B : Nat), as = [.dat (dI l), .dat (rT x)] ∧ (∀ c ∈ l, Sm A c) ∧ Qb B x ∧ (A + B + 2) * (l.length + 1) ≤ 8000 ∧ Q (.dat (.tup [.int (partsP l x).1, .int (partsP l x).2])) as
def cPlus : Ctr := fun as Q => ∃ l m : List Int, as = [.dat (dI l), .dat (dI m)] ∧ l.length < 2 ^ 20 ∧ m.length < 2 ^ 20 ∧ l.getLast? ≠ some 0 ∧ m.getLast? ≠ some 0 ∧ Q (oI (trim (addP l m))) as
def cTimes : Ctr := fun as Q => ∃ l m : List Int, as = [.dat (dI l), .dat (dI m)] ∧ l.length < 2 ^ 20 ∧ m.length < 2 ^ 20 ∧ (∀ c ∈ l, Sm 5000 c) ∧ (∀ c ∈ m, Sm 5000 c) ∧ l.getLast? ≠ some 0 ∧ m.getLast? ≠ some 0 ∧ Q (oI (if l = [] ∨ m = [] then [] else mulP l m)) as
def cVal : Ctr := fun as Q => ∃ (l : List Int) (x : Rat) (A B : Nat), as = [.dat (dI l), .dat (rT x)] ∧ (∀ c ∈ l, Sm A c) ∧ Qb B x ∧ (A + B + 2) * (l.length + 1) ≤ 8000 ∧ l.getLast? ≠ some 0 ∧ Q (.dat (rT (evalR l x))) as
/-! the law's own -/
def Sk (c : Nat) (t : SV) : Prop := ∃ a b : Int, t = .own [.dat (.int a), .dat (.int b), .dat (.int c)] ∧ Sm 1100000 a ∧ Sm 90 b
def cCoin : Ctr := fun as Q => ∃ (s : SV) (c : Nat) (m : Int), as = [s, .dat (.int m)] ∧ Sk c s ∧ c < 2 ^ 60 ∧ 0 < m ∧ Sm 8000 m ∧ ∀ n s' c', 0 ≤ n → n < m → Sk c' s' → c' ≤ c + 1 → Q (.dat (.int n)) [s', .dat (.int m)]
def cShared : Ctr := fun as Q => ∃ a b : Int, as = [.dat (.int a), .dat (.int b)] ∧ Sm 9000 b ∧ Q (.dat (.int (Int.gcd a b))) as
def cRatio : Ctr := fun as Q => ∃ a b : Int, as = [.dat (.int a), .dat (.int b)] ∧ b ≠ 0 ∧ Sm 8900 b ∧ Q (.dat (rT (Rat.divInt a b))) as
def cAddR : Ctr := fun as Q => ∃ x y : Rat, as = [.dat (rT x), .dat (rT y)] ∧ Qb 30000 x ∧ Qb 30000 y ∧ Sm 8900 ((x.den : Int) * (y.den : Int)) ∧ Q (.dat (rT (x + y))) as
def cMulR : Ctr := fun as Q => ∃ x y : Rat, as = [.dat (rT x), .dat (rT y)] ∧ Qb 30000 x ∧ Qb 30000 y ∧ Sm 8900 ((x.den : Int) * (y.den : Int)) ∧ Q (.dat (rT (x * y))) as
def cProdL : Ctr := fun as Q => ∃ l m : List Int, as = [.dat (dI l), .dat (dI m)] ∧ l.length < 2 ^ 20 ∧ m.length < 2 ^ 20 ∧ (∀ c ∈ l, Sm 5000 c) ∧ (∀ c ∈ m, Sm 5000 c) ∧ Q (oI (trim (mulP l m))) as
def cTrimL : Ctr := fun as Q => ∃ l : List Int, as = [.dat (dI l)] ∧ l.length < 2 ^ 22 ∧ Q (oI (trim l)) as
def cSumL : Ctr := fun as Q => ∃ l m : List Int, as = [.dat (dI l), .dat (dI m)] ∧ l.length < 2 ^ 20 ∧ m.length < 2 ^ 20 ∧ Q (oI (trim (addP l m))) as
def cAt : Ctr := fun as Q => ∃ (l : List Int) (x : Rat) (A B : Nat), as = [.dat (dI l), .dat (rT x)] ∧ (∀ c ∈ l, Sm A c) ∧ Qb B x ∧ (A + B + 2) * (l.length + 1) ≤ 8000 ∧ 2 * ((B + 1) * (l.length + 1)) ≤ 8000 ∧ Q (.dat (rT (evalR l x))) as
def cSack : Ctr := fun as Q => ∃ (ns : List Int) (r : Nat) (b : Bool), as = [.dat (scr b ns), .dat (.int r)] ∧ (∀ z ∈ ns, Sm 1048576 z) ∧ r < 2 ^ 40 ∧ ∀ s, Sk 0 s → Q s as
def cRight : Ctr := fun as Q => ∃ d, as = [cp d, .dat d] ∧ okC 8 d ∧ okT 8 (cp d) ∧ cnt (cp d) < 2 ^ 20 ∧ okR d ∧ okR (markT (cp d)).data ∧ Q (.dat (.bl true)) [markT (cp d), .dat d]
def cPoly : Ctr := fun as Q => ∃ (s : SV) (c n : Nat), as = [s, .dat (.int n)] ∧ Sk c s ∧ c < 2 ^ 50 ∧ n ≤ 1000 ∧ ∀ l s' c', l.length ≤ n → Bd 1000000 l → l.getLast? ≠ some 0 → Sk c' s' → c' ≤ c + n + 3 → Q (oI l) [s', .dat (.int n)]
def cAnyR : Ctr := fun as Q => ∃ (s : SV) (c : Nat), as = [s] ∧ Sk c s ∧ c < 2 ^ 50 ∧ ∀ q s' c', Qb 52 q → Sk c' s' → c' ≤ c + 4 → Q (.dat (rT q)) [s']
def cChecked : Ctr := fun as Q => ∃ (s : SV) (c : Nat), as = [s] ∧ Sk c s ∧ c < 2 ^ 40 ∧ ∀ s' c', Sk c' s' → c' ≤ c + 400 → Q (.dat (.bl true)) [s']
theorem right_go {is : List Itm} (h : ∀ i ∈ is, i.ok) (hn : is.length ≤ 8) {Q : SV → List SV → Prop} (q : Q (.dat (.bl true)) [markT (cp (.lst (is.map Itm.d))), .dat (.lst (is.map Itm.d))]) : cRight [.own (is.map Itm.t), .dat (.lst (is.map Itm.d))] Q := by
  obtain ⟨h1, h2, h3, h4, h5⟩ := items_right h hn
  exact ⟨_, by rw [cp_items], h1, h2, h3, h4, h5, q⟩
/-! rests -/
def cChkS : Ctr := fun as Q => ∃ l : List Int, as = [.dat (dI l)] ∧ l ≠ [] ∧ l.getLast? ≠ some 0 ∧ Q (.dat (dI l)) as
def cPrim : Ctr := fun as Q => ∃ l : List Int, as = [.dat (dI l)] ∧ l.length < 2 ^ 20 ∧ (∀ c ∈ l, Sm 8000 c) ∧ (l = [] ∨ 0 < gcdL l) ∧ Q (oI (prim l)) as
def cThin : Ctr := fun as Q => ∃ l : List Int, as = [.dat (dI l)] ∧ l.length < 2 ^ 20 ∧ (∀ c ∈ l, Sm 8000 c) ∧ (l = [] ∨ 0 < gcdL l) ∧ Q (oI (prim l)) as
def cRestOf : Ctr := fun as Q => ∃ (l o : List Int) (A B : Nat), as = [.dat (dI l), .dat (dI o)] ∧ l.length ≤ 30 ∧ o.length ≤ 30 ∧ l.getLast? ≠ some 0 ∧ o ≠ [] ∧ o.getLast? ≠ some 0 ∧ (∀ c ∈ l, Sm A c) ∧ (∀ c ∈ o, Sm B c) ∧ A ≤ 8000 ∧ B ≤ 8000 ∧ A + 2 * ((B + 1) * (l.length + 1 - o.length)) ≤ 8000 ∧ Q (oI (restP l o)) as
def cRest : Ctr := cRestOf
def cLeft : Ctr := cRestOf
theorem one_go {l : List Int} (h : Itm.ok (.L l)) {Q : SV → List SV → Prop} (q : Q (.dat (.bl true)) [markT (oI l), .dat (dI l)]) : cRight [oI l, .dat (dI l)] Q := by
  obtain ⟨a1, a2, a3, a4⟩ := Itm.facts (i := .L l) h
  have a2' : szT (oI l) ≤ 1923010 := a2
  have a4' : DL.cnt (oI l) ≤ 1 := a4
  have a3' : dpT (oI l) ≤ 2 := a3
  have key := tree_okR (t := oI l) a1 (by omega) (by omega) (by omega)
  rw [oI_data] at key
  exact ⟨dI l, by rw [cp_dI], okC_ints h.1, by rw [cp_dI]; exact okT_ints h.1, by rw [cp_dI]; omega, key.1, by rw [cp_dI]; exact key.2, by rw [cp_dI]; exact q⟩
/-! rows and turns -/
def cSlope : Ctr := fun as Q => ∃ l : List Int, as = [.dat (dI l)] ∧ l.length < 2 ^ 20 ∧ (∀ c ∈ l, Sm 8000 c) ∧ Q (oI (slopeP l)) as
def cRow : Ctr := fun as Q => ∃ l : List Int, as = [.dat (dI l)] ∧ l ≠ [] ∧ PL l ∧ Q (oL (rowOf l)) as
def cSign : Ctr := fun as Q => ∃ (p : List Int) (sp : Option Rat), as = [.dat (dI p), .dat (dS sp)] ∧ Ev p ∧ (∀ q, sp = some q → Qb 52 q) ∧ Q (.dat (.int (signE p sp))) as
def cSignAt : Ctr := fun as Q => ∃ (p : List Int) (q : Rat), as = [.dat (dI p), .dat (rT q)] ∧ Ev p ∧ Qb 52 q ∧ Q (.dat (.int (sgnI (evalR p q).num))) as
def cTurns : Ctr := fun as Q => ∃ (ps : List (List Int)) (sp : Option Rat), as = [.dat (dL ps), .dat (dS sp)] ∧ ps.length ≤ 1000 ∧ (∀ p ∈ ps, Ev p) ∧ (∀ q, sp = some q → Qb 52 q) ∧ Q (.dat (.int (turnsP ps sp))) as
/-! drawn factors -/
def cPow : Ctr := fun as Q => ∃ (b : Int) (m : Nat), as = [.dat (.int b), .dat (.int m)] ∧ m ≤ 5 ∧ Sm 100 b ∧ ∀ v : Int, Q (.dat (.int v)) as
def cWRoot : Ctr := fun as Q => ∃ (b : Int) (m : Nat), as = [.dat (.int b), .dat (.int m)] ∧ m ≤ 5 ∧ ∀ v : Int, 0 ≤ v → v ≤ 70 → Q (.dat (.int v)) as
def Nm (m : Nat) (d : DD) : Prop := ∃ u v w : Int, d = .tup [.int u, .int v, .int w] ∧ 1 ≤ u ∧ u ≤ 70 ∧ 1 ≤ v ∧ v ≤ 70 ∧ 1 ≤ w ∧ w ≤ m
def cNumber : Ctr := fun as Q => ∃ u v w : Int, as = [.dat (.int u), .dat (.int v), .dat (.int w)] ∧ 1 ≤ u ∧ u ≤ 70 ∧ 1 ≤ v ∧ v ≤ 70 ∧ 1 ≤ w ∧ w ≤ 5 ∧ ∀ d, Nm 5 d → Q (.dat d) as
def cDrawn : Ctr := fun as Q => ∃ (s : SV) (c : Nat), as = [s, .dat (.int 12)] ∧ Sk c s ∧ c < 2 ^ 50 ∧ ∀ d s' c', Nm 5 d → Sk c' s' → c' ≤ c + 4 → Q (.dat d) [s', .dat (.int 12)]
def cBase : Ctr := fun as Q => ∃ d, as = [.dat d] ∧ Nm 5 d ∧ ∀ p : List Int, 2 ≤ p.length → p.length ≤ 6 → Bd 70 p → p.getLast? ≠ some 0 → Q (oI p) as
def cFactor : Ctr := fun as Q => ∃ (s : SV) (c : Nat), as = [s] ∧ Sk c s ∧ c < 2 ^ 49 ∧ ∀ (x : Fc) s' c', x.ok → Sk c' s' → c' ≤ c + 10 → Q (.dat x.d) [s']
def cFactors : Ctr := fun as Q => ∃ (s : SV) (c : Nat), as = [s, .dat (.int 7)] ∧ Sk c s ∧ c < 2 ^ 48 ∧ ∀ (xs : List Fc) s' c', (∀ x ∈ xs, x.ok) → degs xs ≤ 7 → 3 * wts xs ≤ 1000000 → Sk c' s' → c' ≤ c + 100 → Q (.own (xs.map fun x => .dat x.d)) [s', .dat (.int 7)]
def cMult : Ctr := fun as Q => ∃ (xs : List Fc) (b : Int), as = [.dat (.lst (xs.map Fc.d)), .dat (.int b)] ∧ xs.length ≤ 1000 ∧ (∀ x ∈ xs, x.ok) ∧ degs xs ≤ 7 ∧ 3 * wts xs ≤ 1000000 ∧ b ≠ 0 ∧ b.natAbs ≤ 3 ∧ ∀ p : List Int, PL p → p ≠ [] → Q (.dat (dI p)) as
theorem row_go {l : List Int} (l0 : l ≠ []) (hl : PL l) {Q : SV → List SV → Prop} (q : ∀ t, Q (.dat (.bl true)) [t, .dat (dL (rowOf l))]) : cRight [oL (rowOf l), .dat (dL (rowOf l))] Q := by
  obtain ⟨h1, h2⟩ := row_mb l0 hl.n hl.b hl.z
  rw [oL_itm, dL_itm]
  refine right_go (fun i m => ?_) (by simpa using h2) (by rw [← dL_itm]; exact q _)
  obtain ⟨p, hp, rfl⟩ := List.mem_map.mp m
  have e := (h1 p hp).ev
  exact ⟨by have := e.n; omega, fun c m => (e.sm c m).mono (by decide)⟩
end My

namespace My
open PySem PySem.Spec PyProof.Rows L2 DL
section
variable {P : Program} {w : World} {K : PySem.W.Frag} {mg : Str → Option Value} {base : Heap} {f : Addr} {fd : FuncData}
theorem g_divisor (F : FunD K "divisor" "divisor" (defArgs s_divisor) (defBody s_divisor) (defScope s_divisor) [] [] f fd)  (m_abs : mg "abs" = none) :
    FnG P w K mg base CX0 (1) f fd (["one", "other"] : List Str) (spD K cDiv) := by
  have S : FnScope (["one", "other"] : List Str) (["one", "other"] : List Str) (defScope s_divisor) := ⟨rfl, rfl, rfl, by decide +kernel, rfl, by decide +kernel, by decide +kernel⟩
  have nd : (["one", "other"] : List Str).Nodup := by decide +kernel
  refine okF (k := 0) [] F S (fun cdv A outer s H E hr => (ss_cons (s_par (i := 0) (j := 1) rfl nd (g_cons (ve (p_abs m_abs (os_cons (n_o 0 (pv 0) rfl) os_nil))) (g_cons (ve (p_abs m_abs (os_cons (n_o 1 (pv 1) rfl) os_nil))) g_nil)))
    (ss_cons (s_while PassesOwn.never (q_ne hr.r (n_o 1 (pv 1) rfl) (vo c_int)) (ss_one (s_par (i := 0) (j := 1) rfl nd (g_cons (ve (n_v 1 (pv 1) rfl)) (g_cons (ve (p_mod (n_o 0 (pv 0) rfl) (n_o 1 (pv 1) rfl))) g_nil)))))
    (ss_one (s_ret (ve (n_v 0 (pv 0) rfl))))))) ?_ rfl ?_
  · rintro as Q ⟨a, b, rfl, _⟩; rfl
  · rintro as Q ⟨a, b, rfl, q⟩
    simp
    refine ⟨fun m ρ => ∃ x y : Int, ρ = [some (.dat (.int x)), some (.dat (.int y))] ∧ 0 ≤ x ∧ 0 ≤ y ∧ m = y.toNat ∧ Int.gcd x y = Int.gcd a b, ⟨_, _, _, rfl, by split <;> omega, by split <;> omega, rfl, gcd_abs a b⟩, ?_⟩
    rintro m ρ ⟨x, y, rfl, hx, hy, rfl, hg⟩
    simp
    by_cases h : y = 0
    · subst h
      refine .inl ⟨rfl, ?_⟩
      rw [← hg, Int.gcd_zero] at q
      simpa [Int.natAbs_of_nonneg hx] using q
    · have := fmod_lt x hy h
      exact .inr ⟨h, _, by omega, hy, this.1, rfl, (gcd_fmod hx hy).trans hg⟩
theorem b_divisor {k : Nat} {C : Ctr} (G : FnG P w K mg base CX0 k f fd (["one", "other"] : List Str) (spD K C)) (F : FunD K "divisor" "divisor" (defArgs s_divisor) (defBody s_divisor) (defScope s_divisor) [] [] f fd) (hm : mg "divisor" = some (.ref f)) : Hs P w K mg base "divisor" (["one", "other"] : List Str) k C := by
  refine hsF G hm F ?_
  intro kV doc pm an cdv ct us hl
  match us, hl with
  | [u0, u1], _ => rfl

theorem g_is_fraction (F : FunD K "is_fraction" "is_fraction" (defArgs s_is_fraction) (defBody s_is_fraction) (defScope s_is_fraction) [] [] f fd)  (h_divisor : Hs P w K mg base "divisor" ["one", "other"] 1 cDiv) (m_len : mg "len" = none) :
    FnG P w K mg base CX0 (2) f fd (["told"] : List Str) (spD K cIsF) := by
  have S : FnScope (["told"] : List Str) (["told"] : List Str) (defScope s_is_fraction) := ⟨rfl, rfl, rfl, by decide +kernel, rfl, by decide +kernel, by decide +kernel⟩
  have nd : (["told"] : List Str).Nodup := by decide +kernel
  refine okF (k := 1) [] F S (fun cdv A outer s H E hr => (ss_one (s_ret (ve (v_and (p_eq hr.r (vo (p_len m_len (os_cons (n_o 0 (pv 0) rfl) os_nil))) (vo c_int)) (v_and (p_ge (vo (v_ix (n_o 0 (pv 0) rfl) (vo c_int))) (vo c_int)) (v_one (p_eq hr.r (vo (ev (e_call h_divisor (hr.mono (by omega)) (a_val (ve (v_ix (n_o 0 (pv 0) rfl) (vo c_int))) (a_val (ve (v_ix (n_o 0 (pv 0) rfl) (vo c_int))) a_nil))))) (vo c_int))))))))) ?_ rfl ?_
  · rintro as Q ⟨q, rfl, _⟩; rfl
  · rintro as Q ⟨q, rfl, h⟩
    have h1 := rat_cop q
    have h2 := q.den_pos
    simp [cDiv, rT]
    exact .inr ⟨by omega, by simpa [h1, rT] using h⟩
theorem b_is_fraction {k : Nat} {C : Ctr} (G : FnG P w K mg base CX0 k f fd (["told"] : List Str) (spD K C)) (F : FunD K "is_fraction" "is_fraction" (defArgs s_is_fraction) (defBody s_is_fraction) (defScope s_is_fraction) [] [] f fd) (hm : mg "is_fraction" = some (.ref f)) : Hs P w K mg base "is_fraction" (["told"] : List Str) k C := by
  refine hsF G hm F ?_
  intro kV doc pm an cdv ct us hl
  match us, hl with
  | [u0], _ => rfl

theorem g_check_fraction (F : FunD K "check_fraction" "check_fraction" (defArgs s_check_fraction) (defBody s_check_fraction) (defScope s_check_fraction) [] [] f fd)  (h_is_fraction : Hs P w K mg base "is_fraction" ["told"] 2 cIsF) :
    FnG P w K mg base CX0 (3) f fd (["told"] : List Str) (spD K cChkF) := by
  have S : FnScope (["told"] : List Str) (["told"] : List Str) (defScope s_check_fraction) := ⟨rfl, rfl, rfl, by decide +kernel, rfl, by decide +kernel, by decide +kernel⟩
  have nd : (["told"] : List Str).Nodup := by decide +kernel
  refine okF (k := 2) [] F S (fun cdv A outer s H E hr => (ss_one (s_if (t_not (t_val (ev (e_call h_is_fraction (hr.mono (by omega)) (a_val (ve (n_v 0 (pv 0) rfl)) a_nil))))) (ss_one s_never) ss_nil))) ?_ rfl ?_
  · rintro as Q ⟨q, rfl, _⟩; rfl
  · rintro as Q ⟨q, rfl, h⟩
    simp [cIsF]
    exact h
theorem b_check_fraction {k : Nat} {C : Ctr} (G : FnG P w K mg base CX0 k f fd (["told"] : List Str) (spD K C)) (F : FunD K "check_fraction" "check_fraction" (defArgs s_check_fraction) (defBody s_check_fraction) (defScope s_check_fraction) [] [] f fd) (hm : mg "check_fraction" = some (.ref f)) : Hs P w K mg base "check_fraction" (["told"] : List Str) k C := by
  refine hsF G hm F ?_
  intro kV doc pm an cdv ct us hl
  match us, hl with
  | [u0], _ => rfl

theorem g_trimmed (F : FunD K "trimmed" "trimmed" (defArgs s_trimmed) (defBody s_trimmed) (defScope s_trimmed) [] [] f fd)  (m_len : mg "len" = none) (m_list : mg "list" = none) :
    FnG P w K mg base CX0 (1) f fd (["numbers"] : List Str) (spD K cTrim) := by
  have S : FnScope (["numbers", "size"] : List Str) (["numbers"] : List Str) (defScope s_trimmed) := ⟨rfl, rfl, rfl, by decide +kernel, rfl, by decide +kernel, by decide +kernel⟩
  have nd : (["numbers", "size"] : List Str).Nodup := by decide +kernel
  refine okF (k := 0) [] F S (fun cdv A outer s H E hr => (ss_cons (s_set (i := 1) nd (ve (p_len m_len (os_cons (n_o 0 (pv 0) rfl) os_nil))))
    (ss_cons (s_while PassesOwn.never (t_w (w_and (q_gt (n_o 1 (pv 1) rfl) (vo c_int)) (w_and1 (q_eq hr.r (vo (v_ix (n_o 0 (pv 0) rfl) (vo (p_sub (n_o 1 (pv 1) rfl) (vo c_int))))) (vo c_int))))) (ss_one (s_set (i := 1) nd (ve (p_sub (n_o 1 (pv 1) rfl) (vo c_int))))))
    (ss_one (s_ret (e_list m_list (vo (ev (e_sl (n_o 0 (pv 0) rfl) s_none (s_some (n_o 1 (pv 1) rfl))))))))))) ?_ rfl ?_
  · rintro as Q ⟨l, rfl, _⟩; rfl
  · rintro as Q ⟨l, rfl, hl, q⟩
    simp [dI]
    refine ⟨fun m ρ => m ≤ l.length ∧ ρ = [some (.dat (.lst (l.map .int))), some (.dat (.int m))] ∧ trim (l.take m) = trim l, ⟨l.length, by simp⟩, ?_⟩
    rintro m ρ ⟨hm, rfl, ht⟩
    cases m with
    | zero =>
      have e : trim l = [] := by rw [← ht]; rfl
      simp
      simpa [e, oI, dI] using q
    | succ m =>
      have e1 : ((m : Int) + 1 - 1) = m := by omega
      simp [e1, atI_mapI, atI_nat (show m < l.length by omega)]
      by_cases z : l[m] = 0
      · rw [if_pos z]
        refine .inr ⟨m, by omega, by omega, rfl, ?_⟩
        rw [← ht, List.take_add_one, List.getElem?_eq_getElem (by omega), z]
        exact (trim_snoc0 _).symm
      · rw [if_neg z]
        have e2 : ((m : Int) + 1) = ((m + 1 : Nat) : Int) := by omega
        rw [e2, DL.cutD_map, cut_to (by omega)]
        have e3 : trim l = l.take (m + 1) := by
          rw [← ht]
          refine trim_eq _ ?_
          rw [List.take_add_one, List.getElem?_eq_getElem (by omega), Option.toList_some, List.getLast?_concat]
          simpa using z
        rw [e3] at q
        refine .inr ?_
        simpa [oI, dI, Function.comp_def] using q
theorem b_trimmed {k : Nat} {C : Ctr} (G : FnG P w K mg base CX0 k f fd (["numbers"] : List Str) (spD K C)) (F : FunD K "trimmed" "trimmed" (defArgs s_trimmed) (defBody s_trimmed) (defScope s_trimmed) [] [] f fd) (hm : mg "trimmed" = some (.ref f)) : Hs P w K mg base "trimmed" (["numbers"] : List Str) k C := by
  refine hsF G hm F ?_
  intro kV doc pm an cdv ct us hl
  match us, hl with
  | [u0], _ => rfl

theorem g_checked (F : FunD K "checked" "checked" (defArgs s_checked) (defBody s_checked) (defScope s_checked) [] [] f fd)  :
    FnG P w K mg base CX0 (1) f fd (["one"] : List Str) (spD K cChk) := by
  have S : FnScope (["one"] : List Str) (["one"] : List Str) (defScope s_checked) := ⟨rfl, rfl, rfl, by decide +kernel, rfl, by decide +kernel, by decide +kernel⟩
  have nd : (["one"] : List Str).Nodup := by decide +kernel
  refine okF (k := 0) [] F S (fun cdv A outer s H E hr => (ss_cons (s_if (t_w (w_and (q_ne hr.r (n_o 0 (pv 0) rfl) (vo (ev (e_lst g_nil)))) (w_and1 (q_eq hr.r (vo (v_ix (n_o 0 (pv 0) rfl) (vo (p_neg (vo c_int))))) (vo c_int))))) (ss_one s_never) ss_nil)
    (ss_one (s_ret (ve (n_v 0 (pv 0) rfl)))))) ?_ rfl ?_
  · rintro as Q ⟨l, rfl, _⟩; rfl
  · rintro as Q ⟨l, rfl, hl, q⟩
    simp [dI, atI_mapI, atI_end]
    by_cases h : l = []
    · exact .inl ⟨h, q⟩
    · refine .inr ⟨h, _, ⟨_, List.getLast?_eq_some_getLast h, rfl⟩, by simp, ?_, q⟩
      rw [List.getLast?_eq_some_getLast h] at hl
      simpa using hl
theorem b_checked {k : Nat} {C : Ctr} (G : FnG P w K mg base CX0 k f fd (["one"] : List Str) (spD K C)) (F : FunD K "checked" "checked" (defArgs s_checked) (defBody s_checked) (defScope s_checked) [] [] f fd) (hm : mg "checked" = some (.ref f)) : Hs P w K mg base "checked" (["one"] : List Str) k C := by
  refine hsF G hm F ?_
  intro kV doc pm an cdv ct us hl
  match us, hl with
  | [u0], _ => rfl

theorem g_parts_at (F : FunD K "parts_at" "parts_at" (defArgs s_parts_at) (defBody s_parts_at) (defScope s_parts_at) [] [] f fd)  :
    FnG P w K mg base CX0 (1) f fd (["one", "spot"] : List Str) (spD K cParts) := by
  have S : FnScope (["one", "spot", "above", "below", "found", "power", "number"] : List Str) (["one", "spot"] : List Str) (defScope s_parts_at) := ⟨rfl, rfl, rfl, by decide +kernel, rfl, by decide +kernel, by decide +kernel⟩
  have nd : (["one", "spot", "above", "below", "found", "power", "number"] : List Str).Nodup := by decide +kernel
  refine okF (k := 0) [] F S (fun cdv A outer s H E hr => (ss_cons (s_asg (n_v 1 (pv 1) rfl) (t_tup (n := 2) rfl (ts_cons (t_name (i := 2) nd) (ts_cons (t_name (i := 3) nd) ts_nil))))
    (ss_cons (s_asg (v_tup (g_cons (ve c_int) (g_cons (ve c_int) g_nil))) (t_tup (n := 2) rfl (ts_cons (t_name (i := 4) nd) (ts_cons (t_name (i := 5) nd) ts_nil))))
    (ss_cons (s_for PassesOwn.never rfl (i_lt (ev (e_rev (n_o 0 (pv 0) rfl)))) (t_name (i := 6) nd) (ss_cons (s_set (i := 4) nd (ve (p_add (vo (p_mul (n_o 4 (pv 4) rfl) (n_o 2 (pv 2) rfl))) (vo (p_mul (n_o 6 (pv 6) rfl) (n_o 5 (pv 5) rfl))))))
    (ss_one (s_set (i := 5) nd (ve (p_mul (n_o 5 (pv 5) rfl) (n_o 3 (pv 3) rfl)))))))
    (ss_one (s_ret (e_if (q_ne hr.r (n_o 0 (pv 0) rfl) (vo (ev (e_lst g_nil)))) (ve (v_tup (g_cons (ve (n_v 4 (pv 4) rfl)) (g_cons (ve (p_div (n_o 5 (pv 5) rfl) (n_o 3 (pv 3) rfl))) g_nil)))) (ve (v_tup (g_cons (ve c_int) (g_cons (ve c_int) g_nil))))))))))) ?_ rfl ?_
  · rintro as Q ⟨l, x, A, B, rfl, _⟩; rfl
  · rintro as Q ⟨l, x, A, B, rfl, sl, hx, hs, q⟩
    have hB : B ≤ 8000 := Nat.le_trans (Nat.le_trans (by omega) (Nat.le_mul_of_pos_right _ (by omega))) hs
    have hA : A ≤ 8000 := Nat.le_trans (Nat.le_trans (by omega) (Nat.le_mul_of_pos_right _ (by omega))) hs
    simp [dI, rT, ← List.map_reverse]
    refine for_inv (fun i ρ => ∃ (x6 : Option SV), ρ = [some (.dat (.lst (l.map .int))), some (.dat (.tup [.int x.num, .int x.den])), some (.dat (.int x.num)), some (.dat (.int x.den)), some (.dat (.int (DL.hA x.num x.den (l.reverse.take i).reverse).1)), some (.dat (.int (DL.hA x.num x.den (l.reverse.take i).reverse).2)), x6]) ⟨none, rfl⟩ ?_ ?_
    · rintro i d ρ hd ⟨x6, rfl⟩
      obtain ⟨a, ha, rfl⟩ := intsD_get hd
      have hi := (List.getElem?_eq_some_iff.mp ha).1
      have e : (l.reverse.take (i + 1)).reverse = a :: (l.reverse.take i).reverse := by rw [List.take_add_one, ha]; simp
      obtain ⟨b1, b2⟩ := hA_bd hx (l := (l.reverse.take i).reverse) fun c m => sl c (by
        have := List.mem_of_mem_take (List.mem_reverse.mp m)
        exact List.mem_reverse.mp this)
      have hlen : (l.reverse.take i).reverse.length ≤ l.length := by simp; omega
      have m1 := Nat.mul_le_mul (Nat.le_refl (A + B + 1)) hlen
      have m2 := Nat.mul_le_mul (Nat.le_refl B) hlen
      have m3 : (A + B + 1) * l.length ≤ 8000 := Nat.le_trans (Nat.mul_le_mul (by omega) (by omega)) hs
      have m4 : B * l.length + 1 ≤ 8000 := by
        refine Nat.le_trans ?_ hs
        rw [Nat.mul_add]
        have := Nat.mul_le_mul (show B ≤ A + B + 2 by omega) (Nat.le_refl l.length)
        omega
      have c1 := b1.mono (Nat.le_trans m1 m3)
      have c2 := b2.mono (Nat.le_trans (Nat.add_le_add_right m2 1) m4)
      rw [e]
      simp [DL.hA]
      exact ⟨c1.ok (hx.n.mono hB), ((sl a (List.mem_reverse.mp (List.mem_of_getElem? ha))).mono hA).ok c2, c2.ok (hx.d.mono hB)⟩
    · rintro ρ ⟨x6, rfl⟩
      have e : (l.reverse.take (List.map DD.int l.reverse).length).reverse = l := by rw [List.length_map, List.take_length, List.reverse_reverse]
      rw [e]
      simp
      by_cases z : l = []
      · simpa [z, partsP, dI, rT] using q
      · have := x.den_pos
        simp [z, (hx.d.mono hB).pylong]
        refine ⟨by omega, ?_⟩
        simpa [z, partsP, dI, rT] using q
theorem b_parts_at {k : Nat} {C : Ctr} (G : FnG P w K mg base CX0 k f fd (["one", "spot"] : List Str) (spD K C)) (F : FunD K "parts_at" "parts_at" (defArgs s_parts_at) (defBody s_parts_at) (defScope s_parts_at) [] [] f fd) (hm : mg "parts_at" = some (.ref f)) : Hs P w K mg base "parts_at" (["one", "spot"] : List Str) k C := by
  refine hsF G hm F ?_
  intro kV doc pm an cdv ct us hl
  match us, hl with
  | [u0, u1], _ => rfl

theorem g__law_pv_sack (F : FunD K "_law_pv_sack" "_law_pv_sack" (defArgs s__law_pv_sack) (defBody s__law_pv_sack) (defScope s__law_pv_sack) [] [] f fd)  (m_len : mg "len" = none) (m_int : mg "int" = none) (m_max : mg "max" = none) (m_abs : mg "abs" = none) :
    FnG P w K mg base CX0 (1) f fd (["script", "rank"] : List Str) (spD K cSack) := by
  have S : FnScope (["script", "rank", "cell"] : List Str) (["script", "rank"] : List Str) (defScope s__law_pv_sack) := ⟨rfl, rfl, rfl, by decide +kernel, rfl, by decide +kernel, by decide +kernel⟩
  have nd : (["script", "rank", "cell"] : List Str).Nodup := by decide +kernel
  refine okF (k := 0) [] F S (fun cdv A outer s H E hr => (ss_cons (s_set (i := 2) nd (ve (ev (e_if (q_lt (n_o 1 (pv 1) rfl) (vo (p_len m_len (os_cons (n_o 0 (pv 0) rfl) os_nil)))) (ve (v_ix (n_o 0 (pv 0) rfl) (n_o 1 (pv 1) rfl))) (ve c_int)))))
    (ss_one (s_ret (e_lst (g_cons (ve (p_max rfl m_max (os_cons (vo c_int) (os_cons (vo (p_sub (vo (p_abs m_abs (os_cons (n_o 2 (pv 2) rfl) os_nil))) (vo (p_pow (vo c_int) (vo c_int))))) os_nil)))) (g_cons (ve (p_mod (vo (p_int m_int (os_cons (vo (p_add (vo (p_add (vo (p_mul (n_o 2 (pv 2) rfl) (vo c_int))) (vo (p_mul (n_o 1 (pv 1) rfl) (vo c_int))))) (vo c_int))) os_nil))) (vo (p_add (vo (p_pow (vo c_int) (vo c_int))) (vo c_int))))) (g_cons (ve c_int) g_nil)))))))) ?_ rfl ?_
  · rintro as Q ⟨ns, r, b, rfl, _⟩; rfl
  · rintro as Q ⟨ns, r, b, rfl, hs, hr, q⟩
    have hr' : Sm 40 (r : Int) := by unfold Sm; simpa using hr
    have key : ∀ a : Int, Sm 1048576 a → IntMulOk a 69857 ∧ IntMulOk (r : Int) 9176291 ∧ Q (.own [.dat (.int (if 1000000000000000000 < if a < 0 then -a else a then (if a < 0 then -a else a) - 1000000000000000000 else 0)), .dat (.int ((a * 69857 + r * 9176291 + 60013).fmod 1000000000000000000000007)), .dat (.int 0)]) [.dat (scr b ns), .dat (.int r)] := fun a ha => by
      refine ⟨ha.ok (smc (k := 20)), hr'.ok (smc (k := 30)), q _ ⟨_, _, rfl, ?_, fmod_sm _ (by decide) smc⟩⟩
      refine (ha.le (n := if 1000000000000000000 < if a < 0 then -a else a then (if a < 0 then -a else a) - 1000000000000000000 else 0) ?_).mono (by decide)
      split <;> split <;> omega
    cases b <;> simp [atI_mapI] <;> rcases Nat.lt_or_ge r ns.length with l | l
    case false.inl | true.inl =>
      obtain ⟨k1, k2, k3⟩ := key ns[r] (hs _ (List.getElem_mem l))
      exact .inr ⟨l, _, ⟨_, atI_nat l, rfl⟩, _, rfl, _, rfl, k1, k2, by simpa using k3⟩
    case false.inr | true.inr =>
      obtain ⟨k1, k2, k3⟩ := key 0 smc
      exact .inl ⟨l, k1, k2, by simpa using k3⟩
theorem b__law_pv_sack {k : Nat} {C : Ctr} (G : FnG P w K mg base CX0 k f fd (["script", "rank"] : List Str) (spD K C)) (F : FunD K "_law_pv_sack" "_law_pv_sack" (defArgs s__law_pv_sack) (defBody s__law_pv_sack) (defScope s__law_pv_sack) [] [] f fd) (hm : mg "_law_pv_sack" = some (.ref f)) : Hs P w K mg base "_law_pv_sack" (["script", "rank"] : List Str) k C := by
  refine hsF G hm F ?_
  intro kV doc pm an cdv ct us hl
  match us, hl with
  | [u0, u1], _ => rfl

theorem g__law_pv_coin (F : FunD K "_law_pv_coin" "_law_pv_coin" (defArgs s__law_pv_coin) (defBody s__law_pv_coin) (defScope s__law_pv_coin) [] [] f fd)  (m_int : mg "int" = none) :
    FnG P w K mg base CX0 (1) f fd (["sack", "many"] : List Str) (spD K cCoin) := by
  have S : FnScope (["sack", "many", "drawn", "stirred"] : List Str) (["sack", "many"] : List Str) (defScope s__law_pv_coin) := ⟨rfl, rfl, rfl, by decide +kernel, rfl, by decide +kernel, by decide +kernel⟩
  have nd : (["sack", "many", "drawn", "stirred"] : List Str).Nodup := by decide +kernel
  refine okF (k := 0) [0] F S (fun cdv A outer s H E hr => (ss_cons (s_if (q_gt (vo (v_ix (n_o 0 (pv 0) rfl) (vo c_int))) (vo c_int)) (ss_cons (s_set (i := 2) nd (ve (p_mod (vo (p_int m_int (os_cons (vo (v_ix (n_o 0 (pv 0) rfl) (vo c_int))) os_nil))) (n_o 1 (pv 1) rfl))))
    (ss_cons (s_setit 0 (pv 0) rfl (p_div (vo (v_ix (n_o 0 (pv 0) rfl) (vo c_int))) (n_o 1 (pv 1) rfl)) (vo c_int))
    (ss_one (s_ret (ve (n_v 2 (pv 2) rfl)))))) ss_nil)
    (ss_cons (s_setit 0 (pv 0) rfl (p_add (vo (v_ix (n_o 0 (pv 0) rfl) (vo c_int))) (vo c_int)) (vo c_int))
    (ss_cons (s_set (i := 3) nd (ve (p_mod (vo (p_pow (vo (p_int m_int (os_cons (vo (p_add (vo (v_ix (n_o 0 (pv 0) rfl) (vo c_int))) (vo (p_mul (vo c_int) (vo (v_ix (n_o 0 (pv 0) rfl) (vo c_int))))))) os_nil))) (vo c_int))) (vo (p_add (vo (p_pow (vo c_int) (vo c_int))) (vo c_int))))))
    (ss_cons (s_set (i := 3) nd (ve (p_mod (vo (p_pow (vo (p_int m_int (os_cons (vo (p_add (n_o 3 (pv 3) rfl) (vo (p_mul (vo c_int) (vo (v_ix (n_o 0 (pv 0) rfl) (vo c_int))))))) os_nil))) (vo c_int))) (vo (p_add (vo (p_pow (vo c_int) (vo c_int))) (vo c_int))))))
    (ss_one (s_ret (ve (p_mod (vo (p_int m_int (os_cons (vo (p_div (n_o 3 (pv 3) rfl) (vo c_int))) os_nil))) (n_o 1 (pv 1) rfl)))))))))) ?_ rfl ?_
  · rintro as Q ⟨s, c, m, rfl, _⟩; rfl
  · rintro as Q ⟨s, c, m, rfl, ⟨a, b, rfl, ha, hb⟩, hc, hm, sm, q⟩
    have hc' : Sm 61 ((c : Int) + 1) := by unfold Sm; simp; omega
    simp
    rcases Int.lt_or_le 0 a with z | z
    · have f := fmod_in a hm
      exact .inr ⟨z, by omega, sm.pylong a, q _ _ c f.1 f.2 ⟨_, _, rfl, fdiv_sm ha (by omega), hb⟩ (by omega)⟩
    · have c1 : Sm 95 (b + 1640531527 * ((c : Int) + 1)) := (hb.add ((smc (k := 31)).mul hc')).mono (by decide)
      have c2 : Sm 95 (((b + 1640531527 * ((c : Int) + 1)) ^ 3).fmod 10000000000000000000000013 + 805459861 * ((c : Int) + 1)) := ((fmod_sm (k := 90) _ (by decide) smc).add ((smc (k := 31)).mul hc')).mono (by decide)
      refine .inl ⟨z, (smc (k := 31)).ok hc', c1.pw (n := 3), (smc (k := 31)).ok hc', c2.pw (n := 2), (smc (k := 11)).pylong _, by omega, ?_⟩
      have f := fmod_in ((((((b + 1640531527 * ((c : Int) + 1)) ^ 3).fmod 10000000000000000000000013 + 805459861 * ((c : Int) + 1)) ^ 2).fmod 1000000000000000000000007).fdiv 1024) hm
      exact q _ _ (c + 1) f.1 f.2 ⟨a, b, by simp, ha, hb⟩ (by omega)
theorem b__law_pv_coin {k : Nat} {C : Ctr} (G : FnG P w K mg base CX0 k f fd (["sack", "many"] : List Str) (spD K C)) (F : FunD K "_law_pv_coin" "_law_pv_coin" (defArgs s__law_pv_coin) (defBody s__law_pv_coin) (defScope s__law_pv_coin) [] [] f fd) (hm : mg "_law_pv_coin" = some (.ref f)) : Hs P w K mg base "_law_pv_coin" (["sack", "many"] : List Str) k C := by
  refine hsF G hm F ?_
  intro kV doc pm an cdv ct us hl
  match us, hl with
  | [u0, u1], _ => rfl

theorem g__law_pv_shared (F : FunD K "_law_pv_shared" "_law_pv_shared" (defArgs s__law_pv_shared) (defBody s__law_pv_shared) (defScope s__law_pv_shared) [] [] f fd)  (m_abs : mg "abs" = none) (m_range : mg "range" = none) (m_int : mg "int" = none) :
    FnG P w K mg base CX0 (1) f fd (["left", "right"] : List Str) (spD K cShared) := by
  have S : FnScope (["left", "right", "turn"] : List Str) (["left", "right"] : List Str) (defScope s__law_pv_shared) := ⟨rfl, rfl, rfl, by decide +kernel, rfl, by decide +kernel, by decide +kernel⟩
  have nd : (["left", "right", "turn"] : List Str).Nodup := by decide +kernel
  refine okF (k := 0) [] F S (fun cdv A outer s H E hr => (ss_cons (s_par (i := 0) (j := 1) rfl nd (g_cons (ve (p_abs m_abs (os_cons (n_o 0 (pv 0) rfl) os_nil))) (g_cons (ve (p_abs m_abs (os_cons (n_o 1 (pv 1) rfl) os_nil))) g_nil)))
    (ss_cons (s_for PassesOwn.never rfl (i_rg1 m_range (os_cons (vo c_int) os_nil)) (t_name (i := 2) nd) (ss_cons (s_if (q_eq hr.r (n_o 1 (pv 1) rfl) (vo c_int)) (ss_one (s_ret (ve (n_v 0 (pv 0) rfl)))) ss_nil)
    (ss_one (s_par (i := 0) (j := 1) rfl nd (g_cons (ve (n_v 1 (pv 1) rfl)) (g_cons (ve (p_mod (vo (p_int m_int (os_cons (n_o 0 (pv 0) rfl) os_nil))) (vo (p_int m_int (os_cons (n_o 1 (pv 1) rfl) os_nil))))) g_nil))))))
    (ss_one (s_ret (ve (n_v 0 (pv 0) rfl))))))) ?_ rfl ?_
  · rintro as Q ⟨a, b, rfl, _⟩; rfl
  · rintro as Q ⟨a, b, rfl, hb, q⟩
    simp
    have ea : (if a < 0 then -a else a) = (a.natAbs : Int) := by split <;> omega
    have eb : (if b < 0 then -b else b) = (b.natAbs : Int) := by split <;> omega
    rw [ea, eb]
    refine for_inv (fun i ρ => ∃ (l r : Nat) (x : Option SV), ρ = [some (.dat (.int l)), some (.dat (.int r)), x] ∧ Eu (Int.gcd a b) i l r) ⟨_, _, none, rfl, rfl, fun _ => hb, fun z => by omega⟩ ?_ ?_
    · rintro i d ρ hd ⟨l, r, x, rfl, h⟩
      simp [fmodN]
      by_cases z : r = 0
      · have e := h.g
        rw [z, Nat.gcd_zero_right] at e
        rw [if_pos z, e]; exact q
      · rw [if_neg z]
        exact ⟨z, r, rfl, l % r, (Int.natCast_emod _ _).symm, h.step z⟩
    · rintro ρ ⟨l, r, x, rfl, h⟩
      simp [rgD] at h
      simp [h.last]
      exact q
theorem b__law_pv_shared {k : Nat} {C : Ctr} (G : FnG P w K mg base CX0 k f fd (["left", "right"] : List Str) (spD K C)) (F : FunD K "_law_pv_shared" "_law_pv_shared" (defArgs s__law_pv_shared) (defBody s__law_pv_shared) (defScope s__law_pv_shared) [] [] f fd) (hm : mg "_law_pv_shared" = some (.ref f)) : Hs P w K mg base "_law_pv_shared" (["left", "right"] : List Str) k C := by
  refine hsF G hm F ?_
  intro kV doc pm an cdv ct us hl
  match us, hl with
  | [u0, u1], _ => rfl

theorem g__law_pv_ratio (F : FunD K "_law_pv_ratio" "_law_pv_ratio" (defArgs s__law_pv_ratio) (defBody s__law_pv_ratio) (defScope s__law_pv_ratio) [] [] f fd)  (h__law_pv_shared : Hs P w K mg base "_law_pv_shared" ["left", "right"] 1 cShared) (m_int : mg "int" = none) :
    FnG P w K mg base CX0 (2) f fd (["up", "down"] : List Str) (spD K cRatio) := by
  have S : FnScope (["up", "down", "shared"] : List Str) (["up", "down"] : List Str) (defScope s__law_pv_ratio) := ⟨rfl, rfl, rfl, by decide +kernel, rfl, by decide +kernel, by decide +kernel⟩
  have nd : (["up", "down", "shared"] : List Str).Nodup := by decide +kernel
  refine okF (k := 1) [] F S (fun cdv A outer s H E hr => (ss_cons (s_set (i := 2) nd (ve (p_mul (vo (ev (e_call h__law_pv_shared (hr.mono (by omega)) (a_val (ve (n_v 0 (pv 0) rfl)) (a_val (ve (n_v 1 (pv 1) rfl)) a_nil))))) (vo (p_sub (vo c_int) (vo (p_mul (vo c_int) (vo (p_int m_int (os_cons (vo (p_lt (n_o 1 (pv 1) rfl) (vo c_int))) os_nil))))))))))
    (ss_one (s_ret (ve (v_tup (g_cons (ve (p_div (n_o 0 (pv 0) rfl) (n_o 2 (pv 2) rfl))) (g_cons (ve (p_div (n_o 1 (pv 1) rfl) (n_o 2 (pv 2) rfl))) g_nil)))))))) ?_ rfl ?_
  · rintro as Q ⟨a, b, rfl, _⟩; rfl
  · rintro as Q ⟨a, b, rfl, h, hs, q⟩
    have hg := gcd_small (a := a) h hs
    have e1 := rat_num (a := a) h
    have e2 := rat_den (a := a) h
    simp [cShared, h]
    refine ⟨hs.mono (by decide), ?_⟩
    by_cases l : b < 0
    · rw [if_pos l] at e1 e2
      exact .inr ⟨l, (smc (k := 8)).ok (smc (k := 8)), hg.ok (smc (k := 8)), hg.neg.pylong a, hg.neg.pylong b, by rw [e1, e2]; exact q⟩
    · rw [if_neg (by omega)] at e1 e2
      exact .inl ⟨by omega, (smc (k := 8)).ok (smc (k := 8)), hg.ok (smc (k := 8)), hg.pylong a, hg.pylong b, by rw [e1, e2]; exact q⟩
theorem b__law_pv_ratio {k : Nat} {C : Ctr} (G : FnG P w K mg base CX0 k f fd (["up", "down"] : List Str) (spD K C)) (F : FunD K "_law_pv_ratio" "_law_pv_ratio" (defArgs s__law_pv_ratio) (defBody s__law_pv_ratio) (defScope s__law_pv_ratio) [] [] f fd) (hm : mg "_law_pv_ratio" = some (.ref f)) : Hs P w K mg base "_law_pv_ratio" (["up", "down"] : List Str) k C := by
  refine hsF G hm F ?_
  intro kV doc pm an cdv ct us hl
  match us, hl with
  | [u0, u1], _ => rfl

theorem g__law_pv_add (F : FunD K "_law_pv_add" "_law_pv_add" (defArgs s__law_pv_add) (defBody s__law_pv_add) (defScope s__law_pv_add) [] [] f fd)  (h__law_pv_ratio : Hs P w K mg base "_law_pv_ratio" ["up", "down"] 2 cRatio) :
    FnG P w K mg base CX0 (3) f fd (["left", "right"] : List Str) (spD K cAddR) := by
  have S : FnScope (["left", "right"] : List Str) (["left", "right"] : List Str) (defScope s__law_pv_add) := ⟨rfl, rfl, rfl, by decide +kernel, rfl, by decide +kernel, by decide +kernel⟩
  have nd : (["left", "right"] : List Str).Nodup := by decide +kernel
  refine okF (k := 2) [] F S (fun cdv A outer s H E hr => (ss_one (s_ret (e_call h__law_pv_ratio (hr.mono (by omega)) (a_val (ve (p_add (vo (p_mul (vo (v_ix (n_o 0 (pv 0) rfl) (vo c_int))) (vo (v_ix (n_o 1 (pv 1) rfl) (vo c_int))))) (vo (p_mul (vo (v_ix (n_o 1 (pv 1) rfl) (vo c_int))) (vo (v_ix (n_o 0 (pv 0) rfl) (vo c_int))))))) (a_val (ve (p_mul (vo (v_ix (n_o 0 (pv 0) rfl) (vo c_int))) (vo (v_ix (n_o 1 (pv 1) rfl) (vo c_int))))) a_nil)))))) ?_ rfl ?_
  · rintro as Q ⟨x, y, rfl, _⟩; rfl
  · rintro as Q ⟨x, y, rfl, hx, hy, hd, q⟩
    simp [rT, cRatio]
    refine ⟨hx.n.ok hy.d, hy.n.ok hx.d, hx.d.ok hy.d, x.den_nz, y.den_nz, hd, ?_⟩
    rw [rat_add]; exact q
theorem b__law_pv_add {k : Nat} {C : Ctr} (G : FnG P w K mg base CX0 k f fd (["left", "right"] : List Str) (spD K C)) (F : FunD K "_law_pv_add" "_law_pv_add" (defArgs s__law_pv_add) (defBody s__law_pv_add) (defScope s__law_pv_add) [] [] f fd) (hm : mg "_law_pv_add" = some (.ref f)) : Hs P w K mg base "_law_pv_add" (["left", "right"] : List Str) k C := by
  refine hsF G hm F ?_
  intro kV doc pm an cdv ct us hl
  match us, hl with
  | [u0, u1], _ => rfl

theorem g__law_pv_mul (F : FunD K "_law_pv_mul" "_law_pv_mul" (defArgs s__law_pv_mul) (defBody s__law_pv_mul) (defScope s__law_pv_mul) [] [] f fd)  (h__law_pv_ratio : Hs P w K mg base "_law_pv_ratio" ["up", "down"] 2 cRatio) :
    FnG P w K mg base CX0 (3) f fd (["left", "right"] : List Str) (spD K cMulR) := by
  have S : FnScope (["left", "right"] : List Str) (["left", "right"] : List Str) (defScope s__law_pv_mul) := ⟨rfl, rfl, rfl, by decide +kernel, rfl, by decide +kernel, by decide +kernel⟩
  have nd : (["left", "right"] : List Str).Nodup := by decide +kernel
  refine okF (k := 2) [] F S (fun cdv A outer s H E hr => (ss_one (s_ret (e_call h__law_pv_ratio (hr.mono (by omega)) (a_val (ve (p_mul (vo (v_ix (n_o 0 (pv 0) rfl) (vo c_int))) (vo (v_ix (n_o 1 (pv 1) rfl) (vo c_int))))) (a_val (ve (p_mul (vo (v_ix (n_o 0 (pv 0) rfl) (vo c_int))) (vo (v_ix (n_o 1 (pv 1) rfl) (vo c_int))))) a_nil)))))) ?_ rfl ?_
  · rintro as Q ⟨x, y, rfl, _⟩; rfl
  · rintro as Q ⟨x, y, rfl, hx, hy, hd, q⟩
    simp [rT, cRatio]
    refine ⟨hx.n.ok hy.n, hx.d.ok hy.d, x.den_nz, y.den_nz, hd, ?_⟩
    rw [rat_mul]; exact q
theorem b__law_pv_mul {k : Nat} {C : Ctr} (G : FnG P w K mg base CX0 k f fd (["left", "right"] : List Str) (spD K C)) (F : FunD K "_law_pv_mul" "_law_pv_mul" (defArgs s__law_pv_mul) (defBody s__law_pv_mul) (defScope s__law_pv_mul) [] [] f fd) (hm : mg "_law_pv_mul" = some (.ref f)) : Hs P w K mg base "_law_pv_mul" (["left", "right"] : List Str) k C := by
  refine hsF G hm F ?_
  intro kV doc pm an cdv ct us hl
  match us, hl with
  | [u0, u1], _ => rfl

theorem g__law_pv_trim (F : FunD K "_law_pv_trim" "_law_pv_trim" (defArgs s__law_pv_trim) (defBody s__law_pv_trim) (defScope s__law_pv_trim) [] [] f fd)  (m_len : mg "len" = none) (m_range : mg "range" = none) (m_list : mg "list" = none) :
    FnG P w K mg base CX0 (1) f fd (["some"] : List Str) (spD K cTrimL) := by
  have S : FnScope (["some", "size", "turn"] : List Str) (["some"] : List Str) (defScope s__law_pv_trim) := ⟨rfl, rfl, rfl, by decide +kernel, rfl, by decide +kernel, by decide +kernel⟩
  have nd : (["some", "size", "turn"] : List Str).Nodup := by decide +kernel
  refine okF (k := 0) [] F S (fun cdv A outer s H E hr => (ss_cons (s_set (i := 1) nd (ve (p_len m_len (os_cons (n_o 0 (pv 0) rfl) os_nil))))
    (ss_cons (s_for PassesOwn.never rfl (i_rg1 m_range (os_cons (vo (p_len m_len (os_cons (n_o 0 (pv 0) rfl) os_nil))) os_nil)) (t_name (i := 2) nd) (ss_one (s_if (t_w (w_and (q_gt (n_o 1 (pv 1) rfl) (vo c_int)) (w_and1 (q_eq hr.r (vo (v_ix (n_o 0 (pv 0) rfl) (vo (p_sub (n_o 1 (pv 1) rfl) (vo c_int))))) (vo c_int))))) (ss_one (s_set (i := 1) nd (ve (p_sub (n_o 1 (pv 1) rfl) (vo c_int))))) ss_nil)))
    (ss_one (s_ret (e_list m_list (vo (ev (e_sl (n_o 0 (pv 0) rfl) s_none (s_some (n_o 1 (pv 1) rfl))))))))))) ?_ rfl ?_
  · rintro as Q ⟨a, rfl, _⟩; rfl
  · rintro as Q ⟨l, rfl, hl, q⟩
    simp [dI]
    refine ⟨by omega, ?_⟩
    refine for_inv (fun i ρ => ∃ (n : Nat) (x : Option SV), ρ = [some (.dat (.lst (l.map .int))), some (.dat (.int n)), x] ∧ n ≤ l.length ∧ trim (l.take n) = trim l ∧ (n + i = l.length ∨ (l.take n).getLast? ≠ some 0)) ⟨_, none, rfl, Nat.le_refl _, by rw [List.take_length], .inl rfl⟩ ?_ ?_
    · rintro i d ρ hd ⟨n, x, rfl, hn, ht, he⟩
      cases n with
      | zero =>
        simp
        exact ⟨0, rfl, by omega, ht, .inr (by simp)⟩
      | succ m =>
        have e1 : ((m : Int) + 1 - 1) = m := by omega
        simp [e1, atI_mapI, atI_nat (show m < l.length by omega)]
        have e3 : (l.take (m + 1)).getLast? = some l[m] := by rw [List.take_add_one, List.getElem?_eq_getElem (by omega), Option.toList_some, List.getLast?_concat]
        by_cases z : l[m] = 0
        · rw [if_pos z]
          refine .inr ⟨m, rfl, by omega, ?_, ?_⟩
          · rw [← ht, List.take_add_one, List.getElem?_eq_getElem (by omega), z]
            exact (trim_snoc0 _).symm
          · rcases he with he | he
            · exact .inl (by omega)
            · exact absurd (by rw [e3, z]) he
        · rw [if_neg z]
          refine .inr ⟨m + 1, by omega, by omega, ht, .inr ?_⟩
          rw [e3]; simpa using z
    · rintro ρ ⟨n, x, rfl, hn, ht, he⟩
      simp [rgD] at he
      simp [DL.cutD_map, cut_to hn]
      have e : trim l = l.take n := by
        rw [← ht]
        refine trim_eq _ ?_
        rcases he with rfl | he
        · simp
        · exact he
      rw [e] at q
      simpa [oI, dI, Function.comp_def] using q
theorem b__law_pv_trim {k : Nat} {C : Ctr} (G : FnG P w K mg base CX0 k f fd (["some"] : List Str) (spD K C)) (F : FunD K "_law_pv_trim" "_law_pv_trim" (defArgs s__law_pv_trim) (defBody s__law_pv_trim) (defScope s__law_pv_trim) [] [] f fd) (hm : mg "_law_pv_trim" = some (.ref f)) : Hs P w K mg base "_law_pv_trim" (["some"] : List Str) k C := by
  refine hsF G hm F ?_
  intro kV doc pm an cdv ct us hl
  match us, hl with
  | [u0], _ => rfl

theorem g__law_pv_product (F : FunD K "_law_pv_product" "_law_pv_product" (defArgs s__law_pv_product) (defBody s__law_pv_product) (defScope s__law_pv_product) [] [] f fd)  (h__law_pv_trim : Hs P w K mg base "_law_pv_trim" ["some"] 1 cTrimL) (m_max : mg "max" = none) (m_len : mg "len" = none) (m_enumerate : mg "enumerate" = none) :
    FnG P w K mg base CX0 (2) f fd (["left", "right"] : List Str) (spD K cProdL) := by
  have S : FnScope (["left", "right", "found", "k", "piece", "m", "part"] : List Str) (["left", "right"] : List Str) (defScope s__law_pv_product) := ⟨rfl, rfl, rfl, by decide +kernel, rfl, by decide +kernel, by decide +kernel⟩
  have nd : (["left", "right", "found", "k", "piece", "m", "part"] : List Str).Nodup := by decide +kernel
  refine okF (k := 1) [] F S (fun cdv A outer s H E hr => (ss_cons (s_set (i := 2) nd (e_rep (e_lst (g_cons (ve c_int) g_nil)) (ve (p_max rfl m_max (os_cons (vo c_int) (os_cons (vo (p_sub (vo (p_add (vo (p_len m_len (os_cons (n_o 0 (pv 0) rfl) os_nil))) (vo (p_len m_len (os_cons (n_o 1 (pv 1) rfl) os_nil))))) (vo c_int))) os_nil))))))
    (ss_cons (s_for PassesOwn.never rfl (i_en m_enumerate (g_cons (ve (n_v 0 (pv 0) rfl)) g_nil)) (t_tup (n := 2) rfl (ts_cons (t_name (i := 3) nd) (ts_cons (t_name (i := 4) nd) ts_nil))) (ss_one (s_for PassesOwn.never rfl (i_en m_enumerate (g_cons (ve (n_v 1 (pv 1) rfl)) g_nil)) (t_tup (n := 2) rfl (ts_cons (t_name (i := 5) nd) (ts_cons (t_name (i := 6) nd) ts_nil))) (ss_one (s_setit 2 (pv 2) rfl (p_add (vo (v_ix (n_o 2 (pv 2) rfl) (vo (ev (e_add (ve (n_v 3 (pv 3) rfl)) (ve (n_v 5 (pv 5) rfl))))))) (vo (p_mul (n_o 4 (pv 4) rfl) (n_o 6 (pv 6) rfl)))) (vo (ev (e_add (ve (n_v 3 (pv 3) rfl)) (ve (n_v 5 (pv 5) rfl))))))))))
    (ss_one (s_ret (e_call h__law_pv_trim (hr.mono (by omega)) (a_val (ve (n_sl 2 (pv 2) rfl)) a_nil))))))) ?_ rfl ?_
  · rintro as Q ⟨l, m, rfl, _⟩; rfl
  · rintro as Q ⟨l, m, rfl, hl, hm, sl, sm, q⟩
    have eN : (if (1 : Int) < l.length + m.length then (l.length : Int) + m.length - 1 else 0) = ((l.length + m.length - 1 : Nat) : Int) := by split <;> omega
    simp [dI, cTrimL, maxI, repT_int, eN]
    refine ⟨by omega, by omega, ?_⟩
    rw [tI_rep]
    refine for_inv (fun i ρ => ∃ (F : List Int) (x3 x4 x5 x6 : Option SV), ρ = [some (.dat (.lst (l.map .int))), some (.dat (.lst (m.map .int))), some (.own (tI F)), x3, x4, x5, x6] ∧ mulG m i (l.drop i) F = mulP l m ∧ F.length = l.length + m.length - 1)
      ⟨_, none, none, none, none, rfl, rfl, by simp⟩ ?_ ?_
    · rintro i d ρ hd ⟨F, x3, x4, x5, x6, rfl, hF, hn⟩
      obtain ⟨a, ha, rfl⟩ := enumI_get hd
      have hi := (List.getElem?_eq_some_iff.mp ha).1
      rw [drop_at ha, mulG] at hF
      simp
      refine for_inv (fun j ρ => ∃ (F' : List Int) (x5 x6 : Option SV), ρ = [some (.dat (.lst (l.map .int))), some (.dat (.lst (m.map .int))), some (.own (tI F')), some (.dat (.int i)), some (.dat (.int a)), x5, x6] ∧ rowP a (i + j) (m.drop j) F' = rowP a i m F ∧ F'.length = l.length + m.length - 1)
        ⟨F, x5, x6, rfl, rfl, hn⟩ ?_ ?_
      · rintro j d ρ hd ⟨F', x5, x6, rfl, hF', hn'⟩
        obtain ⟨b, hb, rfl⟩ := enumI_get hd
        have hj := (List.getElem?_eq_some_iff.mp hb).1
        obtain ⟨n, en⟩ : ∃ n, n = i + j := ⟨_, rfl⟩
        have e : (i : Int) + (j : Int) = (n : Int) := by omega
        rw [drop_at hb, rowP, ← en] at hF'
        simp [e, tI_at (show n < F'.length by omega), ixN_nat (show n < F'.length by omega), tI_set]
        refine ⟨(sl a (List.mem_of_getElem? ha)).ok (sm b (List.mem_of_getElem? hb)), ⟨_, rfl, ?_, by simpa using hn'⟩⟩
        rw [show i + (j + 1) = n + 1 by omega]
        simpa [DL.bump] using hF'
      · rintro ρ ⟨F', x5, x6, rfl, hF', hn'⟩
        simp [rowP] at hF'
        exact ⟨F', ⟨_, _, _, _, rfl⟩, by rw [hF']; exact hF, hn'⟩
    · rintro ρ ⟨F, x3, x4, x5, x6, rfl, hF, hn⟩
      simp [mulG] at hF
      simp [hF]
      refine ⟨mulP l m, ?_, ?_, by simpa [dI] using q⟩
      · simp [tI, dI]
      · rw [mulP_len]; omega
theorem b__law_pv_product {k : Nat} {C : Ctr} (G : FnG P w K mg base CX0 k f fd (["left", "right"] : List Str) (spD K C)) (F : FunD K "_law_pv_product" "_law_pv_product" (defArgs s__law_pv_product) (defBody s__law_pv_product) (defScope s__law_pv_product) [] [] f fd) (hm : mg "_law_pv_product" = some (.ref f)) : Hs P w K mg base "_law_pv_product" (["left", "right"] : List Str) k C := by
  refine hsF G hm F ?_
  intro kV doc pm an cdv ct us hl
  match us, hl with
  | [u0, u1], _ => rfl

theorem g__law_pv_at (F : FunD K "_law_pv_at" "_law_pv_at" (defArgs s__law_pv_at) (defBody s__law_pv_at) (defScope s__law_pv_at) [] [] f fd)  (h__law_pv_add : Hs P w K mg base "_law_pv_add" ["left", "right"] 3 cAddR) (h__law_pv_mul : Hs P w K mg base "_law_pv_mul" ["left", "right"] 3 cMulR) :
    FnG P w K mg base CX0 (4) f fd (["poly", "ratio"] : List Str) (spD K cAt) := by
  have S : FnScope (["poly", "ratio", "found", "power", "piece"] : List Str) (["poly", "ratio"] : List Str) (defScope s__law_pv_at) := ⟨rfl, rfl, rfl, by decide +kernel, rfl, by decide +kernel, by decide +kernel⟩
  have nd : (["poly", "ratio", "found", "power", "piece"] : List Str).Nodup := by decide +kernel
  refine okF (k := 3) [] F S (fun cdv A outer s H E hr => (ss_cons (s_asg (v_tup (g_cons (ve (v_tup (g_cons (ve c_int) (g_cons (ve c_int) g_nil)))) (g_cons (ve (v_tup (g_cons (ve c_int) (g_cons (ve c_int) g_nil)))) g_nil))) (t_tup (n := 2) rfl (ts_cons (t_name (i := 2) nd) (ts_cons (t_name (i := 3) nd) ts_nil))))
    (ss_cons (s_for PassesOwn.never rfl (i_lt (n_v 0 (pv 0) rfl)) (t_name (i := 4) nd) (ss_cons (s_set (i := 2) nd (ve (ev (e_call h__law_pv_add (hr.mono (by omega)) (a_val (ve (n_v 2 (pv 2) rfl)) (a_val (ve (ev (e_call h__law_pv_mul (hr.mono (by omega)) (a_val (ve (v_tup (g_cons (ve (n_v 4 (pv 4) rfl)) (g_cons (ve c_int) g_nil)))) (a_val (ve (n_v 3 (pv 3) rfl)) a_nil))))) a_nil))))))
    (ss_one (s_set (i := 3) nd (ve (ev (e_call h__law_pv_mul (hr.mono (by omega)) (a_val (ve (n_v 3 (pv 3) rfl)) (a_val (ve (n_v 1 (pv 1) rfl)) a_nil)))))))))
    (ss_one (s_ret (ve (n_v 2 (pv 2) rfl))))))) ?_ rfl ?_
  · rintro as Q ⟨l, x, A, B, rfl, _⟩; rfl
  · rintro as Q ⟨l, x, A, B, rfl, sl, hx, hs, hs2, q⟩
    have e0 : rT (evalR (l.take 0) x) = .tup [.int 0, .int 1] := rfl
    have e1 : rT (x ^ 0) = .tup [.int 1, .int 1] := by simp; rfl
    simp [dI, cAddR, cMulR]
    refine for_inv (fun i ρ => ∃ x4 : Option SV, ρ = [some (.dat (.lst (l.map .int))), some (.dat (rT x)), some (.dat (rT (evalR (l.take i) x))), some (.dat (rT (x ^ i))), x4]) ⟨none, by rw [e0, e1]⟩ ?_ ?_
    · rintro i d ρ hd ⟨x4, rfl⟩
      obtain ⟨a, ha, rfl⟩ := intsD_get hd
      have hi := (List.getElem?_eq_some_iff.mp ha).1
      have b1 := evalR_qb2 hx (l := l.take i) fun c m => sl c (List.mem_of_mem_take m)
      have ei : (l.take i).length = i := by simp; omega
      rw [ei] at b1
      have b2 := hx.pow i
      have b3 : Qb (A + 1) ((a : Int) : Rat) := Qb.int ((sl _ (List.mem_of_getElem? ha)).mono (by omega)) (by omega)
      have m1 := Nat.mul_le_mul (Nat.le_refl (A + B + 2)) (show i + 1 ≤ l.length + 1 by omega)
      have m2 := Nat.mul_le_mul (show B ≤ A + B + 2 by omega) (Nat.le_refl i)
      have m3 := Nat.mul_le_mul (show A + B + 1 ≤ A + B + 2 by omega) (Nat.le_refl i)
      rw [Nat.mul_succ (A + B + 2) i] at m1
      simp [rT_int, cAddR, cMulR]
      have d1 := eval_den hx (l.take i)
      rw [ei] at d1
      have d2 := pow_den hx i
      have d3 : Sm 1 (((a : Rat).den : Nat) : Int) := by rw [Rat.den_intCast]; exact smc
      have m4 := Nat.mul_le_mul (Nat.le_refl (B + 1)) (show i + 1 ≤ l.length + 1 by omega)
      rw [Nat.mul_succ, Nat.add_mul, Nat.one_mul] at m4
      have m5 := Nat.mul_le_mul (Nat.le_refl B) (show i - 1 ≤ i by omega)
      refine ⟨b3.mono (by omega), b2.mono (by omega), (hx.d.pow i).mono (by omega), b1.mono (by omega), (b3.mul b2).mono (by omega), (d1.mul (den_mul _ _ d3 d2)).mono (by omega), b2.mono (by omega), hx.mono (by omega), ((hx.d.pow i).mul hx.d).mono (by omega), ?_, ?_⟩
      · exact (evalR_take x ha).symm
      · exact (Rat.pow_succ _ _).symm
    · rintro ρ ⟨x4, rfl⟩
      simp
      simpa [dI] using q
theorem b__law_pv_at {k : Nat} {C : Ctr} (G : FnG P w K mg base CX0 k f fd (["poly", "ratio"] : List Str) (spD K C)) (F : FunD K "_law_pv_at" "_law_pv_at" (defArgs s__law_pv_at) (defBody s__law_pv_at) (defScope s__law_pv_at) [] [] f fd) (hm : mg "_law_pv_at" = some (.ref f)) : Hs P w K mg base "_law_pv_at" (["poly", "ratio"] : List Str) k C := by
  refine hsF G hm F ?_
  intro kV doc pm an cdv ct us hl
  match us, hl with
  | [u0, u1], _ => rfl

theorem g__law_pv_copied (F : FunD K "_law_pv_copied" "_law_pv_copied" (defArgs s__law_pv_copied) (defBody s__law_pv_copied) (defScope s__law_pv_copied) [] [] f fd)  (n : Nat) (h__law_pv_copied : Hs P w K mg base "_law_pv_copied" ["thing"] n (cCopy n)) (m_isinstance : mg "isinstance" = none) (m_list : mg "list" = none) (m_tuple : mg "tuple" = none) :
    FnG P w K mg base CX0 (n + 1) f fd (["thing"] : List Str) (spD K (cCopy (n + 1))) := by
  have S : FnScope (["thing", "part"] : List Str) (["thing"] : List Str) (defScope s__law_pv_copied) := ⟨rfl, rfl, rfl, by decide +kernel, rfl, by decide +kernel, by decide +kernel⟩
  have nd : (["thing", "part"] : List Str).Nodup := by decide +kernel
  refine okF (k := n) [] F S (fun cdv A outer s H E hr => (ss_cons (s_if (t_val (p_isi m_isinstance (os_cons (n_o 0 (pv 0) rfl) (os_cons (vo (c_list m_list)) os_nil)))) (ss_one (s_ret (e_lc (own := [("part", 1)]) rfl nd (i_lt (n_v 0 (pv 0) rfl)) rfl (fun _ _ _ _ _ => (t_name (i := 1) nd)) (fun _ _ _ _ _ => ifs_nil) (fun _ _ _ _ _ => (e_call h__law_pv_copied (hr.mono (by omega)) (a_val (ve (n_v 1 (pv 1) rfl)) a_nil)))))) ss_nil)
    (ss_cons (s_if (t_val (p_isi m_isinstance (os_cons (n_o 0 (pv 0) rfl) (os_cons (vo (c_tuple m_tuple)) os_nil)))) (ss_one (s_ret (ve (v_tuple m_tuple (e_lc (own := [("part", 1)]) rfl nd (i_lt (n_v 0 (pv 0) rfl)) rfl (fun _ _ _ _ _ => (t_name (i := 1) nd)) (fun _ _ _ _ _ => ifs_nil) (fun _ _ _ _ _ => (e_call h__law_pv_copied (hr.mono (by omega)) (a_val (ve (n_v 1 (pv 1) rfl)) a_nil)))))))) ss_nil)
    (ss_one (s_ret (ve (n_v 0 (pv 0) rfl))))))) ?_ rfl ?_
  · rintro as Q ⟨d, rfl, _⟩; rfl
  · rintro as Q ⟨d, rfl, h, q⟩
    cases d <;> simp [okC, oIsi, dTy] at h ⊢
    case non => exact q
    case bl => exact q
    case int => exact q
    case str => exact q
    case lst l =>
      refine lc_map cp h.1 (by simp [plainB]) (fun d hd R hR => ?_) (by simpa [cp, cps_eq] using q)
      simp [wipeR, unwipe, cCopy]
      exact ⟨h.2 d hd, hR⟩
    case tup l =>
      refine lc_map cp h.1 (by simp [plainB]) (fun d hd R hR => ?_) ⟨_, .inl rfl, by simpa [cp, cps_eq, SV.datas_eq] using q⟩
      simp [wipeR, unwipe, cCopy]
      exact ⟨h.2 d hd, hR⟩
theorem b__law_pv_copied {k : Nat} {C : Ctr} (G : FnG P w K mg base CX0 k f fd (["thing"] : List Str) (spD K C)) (F : FunD K "_law_pv_copied" "_law_pv_copied" (defArgs s__law_pv_copied) (defBody s__law_pv_copied) (defScope s__law_pv_copied) [] [] f fd) (hm : mg "_law_pv_copied" = some (.ref f)) : Hs P w K mg base "_law_pv_copied" (["thing"] : List Str) k C := by
  refine hsF G hm F ?_
  intro kV doc pm an cdv ct us hl
  match us, hl with
  | [u0], _ => rfl

theorem g__law_pv_lists (F : FunD K "_law_pv_lists" "_law_pv_lists" (defArgs s__law_pv_lists) (defBody s__law_pv_lists) (defScope s__law_pv_lists) [] [] f fd)  (n : Nat) (h__law_pv_lists : Hs P w K mg base "_law_pv_lists" ["thing"] n (cLists n)) (m_isinstance : mg "isinstance" = none) (m_list : mg "list" = none) (m_tuple : mg "tuple" = none) :
    FnG P w K mg base CX0 (n + 1) f fd (["thing"] : List Str) (spD K (cLists (n + 1))) := by
  have S : FnScope (["thing", "found", "part"] : List Str) (["thing"] : List Str) (defScope s__law_pv_lists) := ⟨rfl, rfl, rfl, by decide +kernel, rfl, by decide +kernel, by decide +kernel⟩
  have nd : (["thing", "found", "part"] : List Str).Nodup := by decide +kernel
  refine okF (k := n) [] F S (fun cdv A outer s H E hr => (ss_cons (s_set (i := 1) nd (e_lst g_nil))
    (ss_cons (s_if (t_val (p_isi m_isinstance (os_cons (n_o 0 (pv 0) rfl) (os_cons (vo (c_list m_list)) os_nil)))) (ss_one (s_expr (e_app 1 (pv 1) rfl (ve (n_v 0 (pv 0) rfl)) rfl (fun t h => pe_bm PySem.F.plainAttrs_list PySem.F.slot_list_append PySem.F.type_list_append mt_append (pv 1) h)))) ss_nil)
    (ss_cons (s_if (t_val (p_isi m_isinstance (os_cons (n_o 0 (pv 0) rfl) (os_cons (vo (v_tup (g_cons (ve (c_list m_list)) (g_cons (ve (c_tuple m_tuple)) g_nil)))) os_nil)))) (ss_one (s_for PassesOwn.never rfl (i_lt (n_v 0 (pv 0) rfl)) (t_name (i := 2) nd) (ss_one (s_set (i := 1) nd (e_add (ve (n_sl 1 (pv 1) rfl)) (e_call h__law_pv_lists (hr.mono (by omega)) (a_val (ve (n_v 2 (pv 2) rfl)) a_nil))))))) ss_nil)
    (ss_one (s_ret (n_mv 1 (pv 1) rfl))))))) ?_ rfl ?_
  · rintro as Q ⟨d, rfl, _⟩; rfl
  · rintro as Q ⟨d, rfl, h, q⟩
    have step : ∀ (t : DD) (init ds : List DD), (∀ d ∈ ds, okL n d) → init.length ≤ 1 → (labs ds).length < 2 ^ 24 - 1 → Q (.own ((init ++ labs ds).map .dat)) [.dat t] →
        forB (gSet [] 2) (fSet [] 1 (fAddE (vE (fSeal [] 1)) (fCall (cLists n) (aVal (vE (fVar 2)) aNil)))) ds
          { nx := fRet (fMove [] 1) { nx := fun ρ => Q (SV.dat DD.non) [SV.dat t], rt := fun r ρ => Q r [SV.dat t] }, rt := fun r ρ => Q r [SV.dat t] } [some (SV.dat t), some (SV.own (init.map .dat)), none] := by
      intro t init ds hok hi hz hq
      refine for_inv (fun i ρ => ∃ x : Option SV, ρ = [some (.dat t), some (.own ((init ++ labs (ds.take i)).map .dat)), x]) ⟨none, by simp [labs]⟩ ?_ ?_
      · rintro i d ρ hd ⟨x, rfl⟩
        have hl := labs_le ds (i + 1)
        have e := labs_step hd
        rw [e, List.length_append] at hl
        simp [cLists, e]
        exact ⟨hok d (List.mem_of_getElem? hd), by omega⟩
      · rintro ρ ⟨x, rfl⟩
        rw [List.take_length]
        simp
        simpa using hq
    cases d <;> (try simp only [okL] at h)
    case non => simpa [oIsi, dTy, labD] using q
    case bl => simpa [oIsi, dTy, labD] using q
    case int => simpa [oIsi, dTy, labD] using q
    case str => simpa [oIsi, dTy, labD] using q
    case tup l =>
      simp [oIsi, dTy]
      exact step (.tup l) [] l h.2.2 (by simp) (by omega) (by simpa [labD] using q)
    case at_ v d =>
      cases d with
      | lst l =>
        simp [oIsi, dTy]
        exact step _ [.at_ v (.lst l)] l h.2.2 (by simp) h.2.1 (by simpa [labD] using q)
      | _ => exact h.elim
theorem b__law_pv_lists {k : Nat} {C : Ctr} (G : FnG P w K mg base CX0 k f fd (["thing"] : List Str) (spD K C)) (F : FunD K "_law_pv_lists" "_law_pv_lists" (defArgs s__law_pv_lists) (defBody s__law_pv_lists) (defScope s__law_pv_lists) [] [] f fd) (hm : mg "_law_pv_lists" = some (.ref f)) : Hs P w K mg base "_law_pv_lists" (["thing"] : List Str) k C := by
  refine hsF G hm F ?_
  intro kV doc pm an cdv ct us hl
  match us, hl with
  | [u0], _ => rfl

theorem g__law_pv_marked (F : FunD K "_law_pv_marked" "_law_pv_marked" (defArgs s__law_pv_marked) (defBody s__law_pv_marked) (defScope s__law_pv_marked) [] [] f fd) (h__law_pv_lists : Hs P w K mg base "_law_pv_lists" ["thing"] 8 (cLists 8)) (m_len : mg "len" = none) (m_range : mg "range" = none) (m_repr : mg "repr" = none) :
    FnG P w K mg base CX0 (9) f fd (["thing"] : List Str) (spD K cMark) := by
  have S : FnScope (["thing", "some", "k"] : List Str) (["thing"] : List Str) (defScope s__law_pv_marked) := ⟨rfl, rfl, rfl, by decide +kernel, rfl, by decide +kernel, by decide +kernel⟩
  have nd : (["thing", "some", "k"] : List Str).Nodup := by decide +kernel
  obtain ⟨fl, fdl, l1, l2, l3, l4⟩ := h__law_pv_lists
  refine mark_fn (k := 8) (Ex := fun _ _ _ => False) F S rfl rfl fun cdv A outer s H E hr => ?_
  exact pss_cons (ps_set nd rfl (Or.inl rfl) (pe_callG l4 (hr.mono (by omega)) rfl l1 l2 l3 pass0 (pa_cons (pv 0) pa_nil)))
    (pss_cons (ps_for PassesOwn.never rfl (pi_range1 rfl m_range (pa_cons (pe_callB call_len_seq rfl m_len PySem.boot_len (pa_cons (pv 1) pa_nil)) pa_nil)) (pg_name nd rfl (Or.inl rfl))
      (pss_one (ps_expr (pe_bm PySem.F.plainAttrs_list PySem.F.slot_list_append PySem.F.type_list_append mt_append (pe_ix ix_seq (pv 1) (pv 2) (fun _ _ => rfl)) (pa_cons (pv 2) pa_nil)))))
      (pss_one (ps_ret (pe_callB (call_reprD hr) rfl m_repr PyProof.Rows.boot_repr (pa_cons (pv 0) pa_nil)))))
theorem b__law_pv_marked {k : Nat} {C : Ctr} (G : FnG P w K mg base CX0 k f fd (["thing"] : List Str) (spD K C)) (F : FunD K "_law_pv_marked" "_law_pv_marked" (defArgs s__law_pv_marked) (defBody s__law_pv_marked) (defScope s__law_pv_marked) [] [] f fd) (hm : mg "_law_pv_marked" = some (.ref f)) : Hs P w K mg base "_law_pv_marked" (["thing"] : List Str) k C := by
  refine hsF G hm F ?_
  intro kV doc pm an cdv ct us hl
  match us, hl with
  | [u0], _ => rfl

theorem g__law_pv_right (F : FunD K "_law_pv_right" "_law_pv_right" (defArgs s__law_pv_right) (defBody s__law_pv_right) (defScope s__law_pv_right) [] [] f fd)  (h__law_pv_marked : Hs P w K mg base "_law_pv_marked" ["thing"] 9 cMark) (h__law_pv_copied : Hs P w K mg base "_law_pv_copied" ["thing"] 8 (cCopy 8)) (m_repr : mg "repr" = none) :
    FnG P w K mg base CX0 (10) f fd (["found", "due"] : List Str) (spD K cRight) := by
  have S : FnScope (["found", "due"] : List Str) (["found", "due"] : List Str) (defScope s__law_pv_right) := ⟨rfl, rfl, rfl, by decide +kernel, rfl, by decide +kernel, by decide +kernel⟩
  have nd : (["found", "due"] : List Str).Nodup := by decide +kernel
  refine okF (k := 9) [0] F S (fun cdv A outer s H E hr => (ss_cons (s_if (q_neS (vo (p_repr hr m_repr (os_cons (n_o 0 (pv 0) rfl) os_nil))) (vo (p_repr hr m_repr (os_cons (n_o 1 (pv 1) rfl) os_nil)))) (ss_one (s_ret (ve c_bl))) ss_nil)
    (ss_one (s_ret (ve (p_eqS (vo (ev (e_call h__law_pv_marked (hr.mono (by omega)) (a_ref 0 (pv 0) rfl a_nil)))) (vo (ev (e_call h__law_pv_marked (hr.mono (by omega)) (a_val (e_call h__law_pv_copied (hr.mono (by omega)) (a_val (ve (n_v 1 (pv 1) rfl)) a_nil)) a_nil)))))))))) ?_ rfl ?_
  · rintro as Q ⟨d, rfl, _⟩; rfl
  · rintro as Q ⟨d, rfl, h1, h2, h3, h4, h5, q⟩
    simp [cMark, cCopy, cp_data]
    exact ⟨h4, h2, by simpa using h3, h5, h1, h2, by simpa using h3, h5, q⟩
theorem b__law_pv_right {k : Nat} {C : Ctr} (G : FnG P w K mg base CX0 k f fd (["found", "due"] : List Str) (spD K C)) (F : FunD K "_law_pv_right" "_law_pv_right" (defArgs s__law_pv_right) (defBody s__law_pv_right) (defScope s__law_pv_right) [] [] f fd) (hm : mg "_law_pv_right" = some (.ref f)) : Hs P w K mg base "_law_pv_right" (["found", "due"] : List Str) k C := by
  refine hsF G hm F ?_
  intro kV doc pm an cdv ct us hl
  match us, hl with
  | [u0, u1], _ => rfl

theorem g__law_pv_poly (F : FunD K "_law_pv_poly" "_law_pv_poly" (defArgs s__law_pv_poly) (defBody s__law_pv_poly) (defScope s__law_pv_poly) [] [] f fd)  (h__law_pv_coin : Hs P w K mg base "_law_pv_coin" ["sack", "many"] 1 cCoin) (m_range : mg "range" = none) :
    FnG P w K mg base CX0 (2) f fd (["sack", "size"] : List Str) (spD K cPoly) := by
  have S : FnScope (["sack", "size", "top", "found", "turn"] : List Str) (["sack", "size"] : List Str) (defScope s__law_pv_poly) := ⟨rfl, rfl, rfl, by decide +kernel, rfl, by decide +kernel, by decide +kernel⟩
  have nd : (["sack", "size", "top", "found", "turn"] : List Str).Nodup := by decide +kernel
  refine okF (k := 1) [0] F S (fun cdv A outer s H E hr => (ss_cons (s_set (i := 2) nd (ve (v_ix (vo (ev (e_lst (g_cons (ve c_int) (g_cons (ve c_int) (g_cons (ve c_int) (g_cons (ve (p_pow (vo c_int) (vo c_int))) g_nil))))))) (vo (ev (e_call h__law_pv_coin (hr.mono (by omega)) (a_ref 0 (pv 0) rfl (a_val (ve c_int) a_nil))))))))
    (ss_cons (s_lc (i := 3) (own := [("turn", 4)]) rfl nd (i_rg1 m_range (os_cons (vo (ev (e_call h__law_pv_coin (hr.mono (by omega)) (a_ref 0 (pv 0) rfl (a_val (ve (p_add (n_o 1 (pv 1) rfl) (vo c_int))) a_nil))))) os_nil)) rfl (fun _ _ _ _ _ => (t_name (i := 4) nd)) (fun _ _ _ _ _ => ifs_nil) (fun _ _ _ _ _ => (ve (p_sub (vo (ev (e_call h__law_pv_coin (hr.mono (by omega)) (a_ref 0 (pv 0) rfl (a_val (ve (p_add (vo (p_mul (vo c_int) (n_o 2 (pv 2) rfl))) (vo c_int))) a_nil))))) (n_o 2 (pv 2) rfl)))))
    (ss_cons (s_if (t_w (w_and (q_ne hr.r (n_o 3 (pv 3) rfl) (vo (ev (e_lst g_nil)))) (w_and1 (q_eq hr.r (vo (v_ix (n_o 3 (pv 3) rfl) (vo (p_neg (vo c_int))))) (vo c_int))))) (ss_one (s_setit 3 (pv 3) rfl (p_sub (vo c_int) (vo (p_mul (vo c_int) (vo (ev (e_call h__law_pv_coin (hr.mono (by omega)) (a_ref 0 (pv 0) rfl (a_val (ve c_int) a_nil)))))))) (vo (p_neg (vo c_int))))) ss_nil)
    (ss_one (s_ret (n_mv 3 (pv 3) rfl))))))) ?_ rfl ?_
  · rintro as Q ⟨s, c, n, rfl, _⟩; rfl
  · rintro as Q ⟨s, c, n, rfl, hs, hc, hn, q⟩
    simp [cCoin]
    refine ⟨c, hs, by omega, smc, fun a s1 c1 a0 a1 k1 e1 => ?_⟩
    obtain ⟨top, ht, t1⟩ := at4 (a := 1) (b := 3) (c := 12) (d := 1000000) a0 a1
    have t2 : 1 ≤ top ∧ top ≤ 1000000 := by omega
    refine ⟨_, ht, c1, k1, by omega, (sm_of (b := 1001) (k := 8000) (by omega) (by omega)), fun b s2 c2 b0 b1 k2 e2 => ⟨by omega, by omega, ?_⟩⟩
    refine lc_inv (fun i acc ρ => ∃ (s' : SV) (c' : Nat) (L : List Int), Sk c' s' ∧ c' ≤ c + 2 + i ∧ ρ = [some s', some (.dat (.int n)), some (.dat (.int top)), none, none] ∧ acc = tI L ∧ L.length = i ∧ Bd 1000000 L) ⟨s2, c2, [], k2, by omega, rfl, rfl, rfl, fun _ m => nomatch m⟩ ?_ ?_
    · rintro i d acc ρ hd ⟨s3, c3, L, k3, e3, rfl, rfl, hl, hb⟩
      have hi : i < b.toNat := by
        have := (List.getElem?_eq_some_iff.mp hd).1
        simpa [rgD] using this
      refine ⟨by simp [plainB], ?_⟩
      simp [wipeR, unwipe, cCoin]
      refine ⟨(smc (k := 8)).ok (sm_of (b := 1000000) (k := 60) (by omega) (by omega)), c3, k3, by omega, by omega, (sm_of (b := 2000001) (k := 8000) (by omega) (by omega)), fun x s4 c4 x0 x1 k4 e4 => ⟨by omega, s4, c4, k4, by omega, rfl, L ++ [x - top], tI_snoc _ _, by simp [hl], ?_⟩⟩
      intro y hy
      rcases List.mem_append.mp hy with hy | hy
      · exact hb y hy
      · have : y = x - top := by simpa using hy
        omega
    · rintro acc ρ ⟨s3, c3, L, k3, e3, rfl, rfl, hl, hb⟩
      have hl2 : L.length ≤ n := by
        simp [rgD] at hl
        omega
      simp [tI_end]
      by_cases z : L = []
      · exact .inl ⟨z, q L s3 c3 hl2 hb (by simp [z]) k3 (by omega)⟩
      · have e := List.getLast?_eq_some_getLast z
        have ln := List.length_pos_iff.mpr z
        refine .inr ⟨z, _, ⟨_, e, rfl⟩, by simp, ?_⟩
        by_cases z2 : L.getLast z = 0
        · rw [if_pos (by simp [z2])]
          refine ⟨c3, k3, by omega, smc, fun x s4 c4 x0 x1 k4 e4 => ⟨(smc (k := 8)).ok (sm_of (b := 2) (k := 60) (by omega) (by omega)), _, ixN_end ln, ?_⟩⟩
          rw [tI_set]
          refine q (L.set (L.length - 1) (1 - 2 * x)) s4 c4 (by simpa using hl2) ?_ ?_ k4 (by omega)
          · intro y hy
            rcases List.mem_or_eq_of_mem_set hy with hy | hy
            · exact hb y hy
            · omega
          · rw [List.getLast?_eq_getElem?, List.length_set, List.getElem?_set_self (by omega)]
            simp
            omega
        · rw [if_neg (by simp [z2])]
          refine q L s3 c3 hl2 hb ?_ k3 (by omega)
          rw [e]
          simpa using z2
theorem b__law_pv_poly {k : Nat} {C : Ctr} (G : FnG P w K mg base CX0 k f fd (["sack", "size"] : List Str) (spD K C)) (F : FunD K "_law_pv_poly" "_law_pv_poly" (defArgs s__law_pv_poly) (defBody s__law_pv_poly) (defScope s__law_pv_poly) [] [] f fd) (hm : mg "_law_pv_poly" = some (.ref f)) : Hs P w K mg base "_law_pv_poly" (["sack", "size"] : List Str) k C := by
  refine hsF G hm F ?_
  intro kV doc pm an cdv ct us hl
  match us, hl with
  | [u0, u1], _ => rfl

theorem g__law_pv_any_ratio (F : FunD K "_law_pv_any_ratio" "_law_pv_any_ratio" (defArgs s__law_pv_any_ratio) (defBody s__law_pv_any_ratio) (defScope s__law_pv_any_ratio) [] [] f fd)  (h__law_pv_coin : Hs P w K mg base "_law_pv_coin" ["sack", "many"] 1 cCoin) (h__law_pv_ratio : Hs P w K mg base "_law_pv_ratio" ["up", "down"] 2 cRatio) :
    FnG P w K mg base CX0 (3) f fd (["sack"] : List Str) (spD K cAnyR) := by
  have S : FnScope (["sack", "top", "base"] : List Str) (["sack"] : List Str) (defScope s__law_pv_any_ratio) := ⟨rfl, rfl, rfl, by decide +kernel, rfl, by decide +kernel, by decide +kernel⟩
  have nd : (["sack", "top", "base"] : List Str).Nodup := by decide +kernel
  refine okF (k := 2) [0] F S (fun cdv A outer s H E hr => (ss_cons (s_set (i := 1) nd (ve (v_ix (vo (ev (e_lst (g_cons (ve c_int) (g_cons (ve c_int) (g_cons (ve (p_pow (vo c_int) (vo c_int))) g_nil)))))) (vo (ev (e_call h__law_pv_coin (hr.mono (by omega)) (a_ref 0 (pv 0) rfl (a_val (ve c_int) a_nil))))))))
    (ss_cons (s_set (i := 2) nd (ve (v_ix (vo (ev (e_lst (g_cons (ve c_int) (g_cons (ve c_int) (g_cons (ve (p_pow (vo c_int) (vo c_int))) g_nil)))))) (vo (ev (e_call h__law_pv_coin (hr.mono (by omega)) (a_ref 0 (pv 0) rfl (a_val (ve c_int) a_nil))))))))
    (ss_one (s_ret (e_call h__law_pv_ratio (hr.mono (by omega)) (a_val (ve (p_sub (vo (ev (e_call h__law_pv_coin (hr.mono (by omega)) (a_ref 0 (pv 0) rfl (a_val (ve (p_add (vo (p_mul (vo c_int) (n_o 1 (pv 1) rfl))) (vo c_int))) a_nil))))) (n_o 1 (pv 1) rfl))) (a_val (ve (p_add (vo c_int) (vo (ev (e_call h__law_pv_coin (hr.mono (by omega)) (a_ref 0 (pv 0) rfl (a_val (ve (n_v 2 (pv 2) rfl)) a_nil))))))) a_nil)))))))) ?_ rfl ?_
  · rintro as Q ⟨s, c, rfl, _⟩; rfl
  · rintro as Q ⟨s, c, rfl, hs, hc, q⟩
    simp [cCoin]
    refine ⟨c, hs, by omega, smc, fun a s1 c1 a0 a1 k1 e1 => ?_⟩
    obtain ⟨top, ht, t1⟩ := at3 (a := 3) (b := 30) (c := 1000000000000000) a0 a1
    refine ⟨_, ht, c1, k1, by omega, smc, fun a s2 c2 a0 a1 k2 e2 => ?_⟩
    obtain ⟨bs, hb, b1⟩ := at3 (a := 1) (b := 6) (c := 1000000000000000) a0 a1
    have t2 : 3 ≤ top ∧ top ≤ 1000000000000000 := by omega
    have b2 : 1 ≤ bs ∧ bs ≤ 1000000000000000 := by omega
    refine ⟨_, hb, top, rfl, (smc (k := 8)).ok (sm_of (b := 1000000000000000) (k := 60) (by omega) (by omega)), c2, k2, by omega, by omega, (sm_of (b := 2000000000000001) (k := 8000) (by omega) (by omega)), fun x s3 c3 x0 x1 k3 e3 => ?_⟩
    simp [cRatio]
    refine ⟨c3, k3, by omega, by omega, (sm_of (b := 1000000000000000) (k := 8000) (by omega) (by omega)), fun y s4 c4 y0 y1 k4 e4 => ⟨by omega, (sm_of (b := 1000000000000000) (k := 8900) (by omega) (by omega)), q _ s4 c4 (Qb.of (sm_of (b := 1000000000000000) (by omega) (by omega)) (sm_of (b := 1000000000000000) (by omega) (by omega)) (by omega)) k4 (by omega)⟩⟩
theorem b__law_pv_any_ratio {k : Nat} {C : Ctr} (G : FnG P w K mg base CX0 k f fd (["sack"] : List Str) (spD K C)) (F : FunD K "_law_pv_any_ratio" "_law_pv_any_ratio" (defArgs s__law_pv_any_ratio) (defBody s__law_pv_any_ratio) (defScope s__law_pv_any_ratio) [] [] f fd) (hm : mg "_law_pv_any_ratio" = some (.ref f)) : Hs P w K mg base "_law_pv_any_ratio" (["sack"] : List Str) k C := by
  refine hsF G hm F ?_
  intro kV doc pm an cdv ct us hl
  match us, hl with
  | [u0], _ => rfl

theorem g_checked_some (F : FunD K "checked_some" "checked_some" (defArgs s_checked_some) (defBody s_checked_some) (defScope s_checked_some) [] [] f fd)  (h_checked : Hs P w K mg base "checked" ["one"] 1 cChk) :
    FnG P w K mg base CX0 (2) f fd (["one"] : List Str) (spD K cChkS) := by
  have S : FnScope (["one"] : List Str) (["one"] : List Str) (defScope s_checked_some) := ⟨rfl, rfl, rfl, by decide +kernel, rfl, by decide +kernel, by decide +kernel⟩
  have nd : (["one"] : List Str).Nodup := by decide +kernel
  refine okF (k := 1) [] F S (fun cdv A outer s H E hr => (ss_cons (s_if (q_eq hr.r (n_o 0 (pv 0) rfl) (vo (ev (e_lst g_nil)))) (ss_one s_never) ss_nil)
    (ss_one (s_ret (e_call h_checked (hr.mono (by omega)) (a_val (ve (n_v 0 (pv 0) rfl)) a_nil)))))) ?_ rfl ?_
  · rintro as Q ⟨l, rfl, _⟩; rfl
  · rintro as Q ⟨l, rfl, h0, hl, q⟩
    simp [cChk]
    exact ⟨okD_lint, by simp [dI, h0], hl, q⟩
theorem b_checked_some {k : Nat} {C : Ctr} (G : FnG P w K mg base CX0 k f fd (["one"] : List Str) (spD K C)) (F : FunD K "checked_some" "checked_some" (defArgs s_checked_some) (defBody s_checked_some) (defScope s_checked_some) [] [] f fd) (hm : mg "checked_some" = some (.ref f)) : Hs P w K mg base "checked_some" (["one"] : List Str) k C := by
  refine hsF G hm F ?_
  intro kV doc pm an cdv ct us hl
  match us, hl with
  | [u0], _ => rfl

theorem g_primitive (F : FunD K "primitive" "primitive" (defArgs s_primitive) (defBody s_primitive) (defScope s_primitive) [] [] f fd)  (h_divisor : Hs P w K mg base "divisor" ["one", "other"] 1 cDiv) :
    FnG P w K mg base CX0 (2) f fd (["one"] : List Str) (spD K cPrim) := by
  have S : FnScope (["one", "shared", "number"] : List Str) (["one"] : List Str) (defScope s_primitive) := ⟨rfl, rfl, rfl, by decide +kernel, rfl, by decide +kernel, by decide +kernel⟩
  have nd : (["one", "shared", "number"] : List Str).Nodup := by decide +kernel
  refine okF (k := 1) [] F S (fun cdv A outer s H E hr => (ss_cons (s_set (i := 1) nd (ve c_int))
    (ss_cons (s_for PassesOwn.never rfl (i_lt (n_v 0 (pv 0) rfl)) (t_name (i := 2) nd) (ss_one (s_set (i := 1) nd (ve (ev (e_call h_divisor (hr.mono (by omega)) (a_val (ve (n_v 1 (pv 1) rfl)) (a_val (ve (n_v 2 (pv 2) rfl)) a_nil))))))))
    (ss_one (s_ret (e_lc (own := [("number", 2)]) rfl nd (i_lt (n_v 0 (pv 0) rfl)) rfl (fun _ _ _ _ _ => (t_name (i := 2) nd)) (fun _ _ _ _ _ => ifs_nil) (fun _ _ _ _ _ => (ve (p_div (n_o 2 (pv 2) rfl) (n_o 1 (pv 1) rfl)))))))))) ?_ rfl ?_
  · rintro as Q ⟨l, rfl, _⟩; rfl
  · rintro as Q ⟨l, rfl, hn, hb, hg, q⟩
    simp [dI, cDiv]
    refine for_inv (fun i ρ => ∃ x : Option SV, (x = none ∨ ∃ d, x = some (.dat d)) ∧ ρ = [some (.dat (.lst (l.map .int))), some (.dat (.int (gcdF 0 (l.take i)))), x]) ⟨none, .inl rfl, rfl⟩ ?_ ?_
    · rintro i d ρ hd ⟨x, _, rfl⟩
      obtain ⟨a, ha, rfl⟩ := intsD_get hd
      simp [cDiv]
      rw [gcdF_take ha]
    · rintro ρ ⟨x, hx, rfl⟩
      rw [List.length_map, List.take_length]
      simp
      refine lc_map (divG (gcdL l)) ?_ ?_ ?_ ?_
      · simp [sizeLine]; omega
      · rcases hx with rfl | ⟨d, rfl⟩ <;> simp [plainB]
      · intro d hd R hR
        obtain ⟨a, ha, rfl⟩ := List.mem_map.mp hd
        have g0 : 0 < gcdL l := by
          rcases hg with rfl | g
          · cases ha
          · exact g
        obtain ⟨c, hc, cz⟩ := gcdL_some g0
        have sm := gcdL_sm hc (hb c hc) cz
        simp [wipeR, unwipe]
        exact ⟨by unfold gcdL at g0; omega, sm.pylong a, hR⟩
      · rw [divG_all]
        simpa [dI, oI_tI] using q
theorem b_primitive {k : Nat} {C : Ctr} (G : FnG P w K mg base CX0 k f fd (["one"] : List Str) (spD K C)) (F : FunD K "primitive" "primitive" (defArgs s_primitive) (defBody s_primitive) (defScope s_primitive) [] [] f fd) (hm : mg "primitive" = some (.ref f)) : Hs P w K mg base "primitive" (["one"] : List Str) k C := by
  refine hsF G hm F ?_
  intro kV doc pm an cdv ct us hl
  match us, hl with
  | [u0], _ => rfl

theorem g__law_pv_thin (F : FunD K "_law_pv_thin" "_law_pv_thin" (defArgs s__law_pv_thin) (defBody s__law_pv_thin) (defScope s__law_pv_thin) [] [] f fd)  (h__law_pv_shared : Hs P w K mg base "_law_pv_shared" ["left", "right"] 1 cShared) :
    FnG P w K mg base CX0 (2) f fd (["poly"] : List Str) (spD K cThin) := by
  have S : FnScope (["poly", "shared", "piece"] : List Str) (["poly"] : List Str) (defScope s__law_pv_thin) := ⟨rfl, rfl, rfl, by decide +kernel, rfl, by decide +kernel, by decide +kernel⟩
  have nd : (["poly", "shared", "piece"] : List Str).Nodup := by decide +kernel
  refine okF (k := 1) [] F S (fun cdv A outer s H E hr => (ss_cons (s_set (i := 1) nd (ve c_int))
    (ss_cons (s_for PassesOwn.never rfl (i_lt (n_v 0 (pv 0) rfl)) (t_name (i := 2) nd) (ss_one (s_set (i := 1) nd (ve (ev (e_call h__law_pv_shared (hr.mono (by omega)) (a_val (ve (n_v 1 (pv 1) rfl)) (a_val (ve (n_v 2 (pv 2) rfl)) a_nil))))))))
    (ss_one (s_ret (e_lc (own := [("piece", 2)]) rfl nd (i_lt (n_v 0 (pv 0) rfl)) rfl (fun _ _ _ _ _ => (t_name (i := 2) nd)) (fun _ _ _ _ _ => ifs_nil) (fun _ _ _ _ _ => (ve (p_div (n_o 2 (pv 2) rfl) (n_o 1 (pv 1) rfl)))))))))) ?_ rfl ?_
  · rintro as Q ⟨l, rfl, _⟩; rfl
  · rintro as Q ⟨l, rfl, hn, hb, hg, q⟩
    simp [dI, cShared]
    refine for_inv (fun i ρ => ∃ x : Option SV, (x = none ∨ ∃ d, x = some (.dat d)) ∧ ρ = [some (.dat (.lst (l.map .int))), some (.dat (.int (gcdF 0 (l.take i)))), x]) ⟨none, .inl rfl, rfl⟩ ?_ ?_
    · rintro i d ρ hd ⟨x, _, rfl⟩
      obtain ⟨a, ha, rfl⟩ := intsD_get hd
      simp [cShared]
      exact ⟨(hb a (List.mem_of_getElem? ha)).mono (by decide), by rw [gcdF_take ha]⟩
    · rintro ρ ⟨x, hx, rfl⟩
      rw [List.length_map, List.take_length]
      simp
      refine lc_map (divG (gcdL l)) ?_ ?_ ?_ ?_
      · simp [sizeLine]; omega
      · rcases hx with rfl | ⟨d, rfl⟩ <;> simp [plainB]
      · intro d hd R hR
        obtain ⟨a, ha, rfl⟩ := List.mem_map.mp hd
        have g0 : 0 < gcdL l := by
          rcases hg with rfl | g
          · cases ha
          · exact g
        obtain ⟨c, hc, cz⟩ := gcdL_some g0
        have sm := gcdL_sm hc (hb c hc) cz
        simp [wipeR, unwipe]
        exact ⟨by unfold gcdL at g0; omega, sm.pylong a, hR⟩
      · rw [divG_all]
        simpa [dI, oI_tI] using q
theorem b__law_pv_thin {k : Nat} {C : Ctr} (G : FnG P w K mg base CX0 k f fd (["poly"] : List Str) (spD K C)) (F : FunD K "_law_pv_thin" "_law_pv_thin" (defArgs s__law_pv_thin) (defBody s__law_pv_thin) (defScope s__law_pv_thin) [] [] f fd) (hm : mg "_law_pv_thin" = some (.ref f)) : Hs P w K mg base "_law_pv_thin" (["poly"] : List Str) k C := by
  refine hsF G hm F ?_
  intro kV doc pm an cdv ct us hl
  match us, hl with
  | [u0], _ => rfl

theorem g_rest_of (F : FunD K "rest_of" "rest_of" (defArgs s_rest_of) (defBody s_rest_of) (defScope s_rest_of) [] [] f fd)  (h_primitive : Hs P w K mg base "primitive" ["one"] 2 cPrim) (h_trimmed : Hs P w K mg base "trimmed" ["numbers"] 1 cTrim) (m_len : mg "len" = none) (m_zip : mg "zip" = none) (m_abs : mg "abs" = none) :
    FnG P w K mg base CX0 (3) f fd (["one", "other"] : List Str) (spD K cRestOf) := by
  have S : FnScope (["one", "other", "found", "last", "shift", "top", "taken", "piece", "number"] : List Str) (["one", "other"] : List Str) (defScope s_rest_of) := ⟨rfl, rfl, rfl, by decide +kernel, rfl, by decide +kernel, by decide +kernel⟩
  have nd : (["one", "other", "found", "last", "shift", "top", "taken", "piece", "number"] : List Str).Nodup := by decide +kernel
  refine okF (k := 2) [] F S (fun cdv A outer s H E hr => (ss_cons (s_un2 (i := 2) (j := 3) rfl nd (g_cons (e_call h_primitive (hr.mono (by omega)) (a_val (ve (n_v 0 (pv 0) rfl)) a_nil)) (g_cons (ve (v_ix (n_o 1 (pv 1) rfl) (vo (p_neg (vo c_int))))) g_nil)))
    (ss_cons (s_while PassesOwn.never (q_ge (vo (p_len m_len (os_cons (n_o 2 (pv 2) rfl) os_nil))) (vo (p_len m_len (os_cons (n_o 1 (pv 1) rfl) os_nil)))) (ss_cons (s_set (i := 4) nd (ve (p_sub (vo (p_len m_len (os_cons (n_o 2 (pv 2) rfl) os_nil))) (vo (p_len m_len (os_cons (n_o 1 (pv 1) rfl) os_nil))))))
    (ss_cons (s_set (i := 5) nd (ve (ev (e_if (q_gt (n_o 3 (pv 3) rfl) (vo c_int)) (ve (v_ix (n_o 2 (pv 2) rfl) (vo (p_neg (vo c_int))))) (ve (p_neg (vo (v_ix (n_o 2 (pv 2) rfl) (vo (p_neg (vo c_int)))))))))))
    (ss_cons (s_set (i := 6) nd (ve (ev (e_add (e_rep (e_lst (g_cons (ve c_int) g_nil)) (ve (n_v 4 (pv 4) rfl))) (e_lc (own := [("piece", 7)]) rfl nd (i_lt (n_v 1 (pv 1) rfl)) rfl (fun _ _ _ _ _ => (t_name (i := 7) nd)) (fun _ _ _ _ _ => ifs_nil) (fun _ _ _ _ _ => (ve (p_mul (n_o 5 (pv 5) rfl) (n_o 7 (pv 7) rfl)))))))))
    (ss_one (s_set (i := 2) nd (e_call h_primitive (hr.mono (by omega)) (a_val (ve (ev (e_call h_trimmed (hr.mono (by omega)) (a_val (ve (ev (e_lc (own := [("number", 8), ("piece", 7)]) rfl nd (i_zp m_zip (g_cons (ve (n_sl 2 (pv 2) rfl)) (g_cons (ve (n_v 6 (pv 6) rfl)) g_nil))) rfl (fun _ _ _ _ _ => (t_tup (n := 2) rfl (ts_cons (t_name (i := 8) nd) (ts_cons (t_name (i := 7) nd) ts_nil)))) (fun _ _ _ _ _ => ifs_nil) (fun _ _ _ _ _ => (ve (p_sub (vo (p_mul (vo (p_abs m_abs (os_cons (n_o 3 (pv 3) rfl) os_nil))) (n_o 8 (pv 8) rfl))) (n_o 7 (pv 7) rfl))))))) a_nil)))) a_nil))))))))
    (ss_one (s_ret (n_mv 2 (pv 2) rfl)))))) ?_ rfl ?_
  · rintro as Q ⟨l, o, A, B, rfl, _⟩; rfl
  · rintro as Q ⟨l, o, A0, B, rfl, hl, ho, zl, o0, zo, bl, bo, hA0, hB0, hS, q⟩
    have op := List.length_pos_iff.mpr o0
    have lo := last_ne o0 zo
    have eo : o.getLast? = some (lastI o) := by
      rw [List.getLast?_eq_getElem?]
      unfold lastI
      rw [List.getD_eq_getElem?_getD, List.getElem?_eq_getElem (by omega)]
      rfl
    simp [cPrim, dI, atI_mapI, atI_end, oI_tI]
    refine ⟨by omega, fun c m => (bl c m).mono hA0, ?_, _, ⟨_, eo, rfl⟩, ?_⟩
    · by_cases z : l = []
      · exact .inl z
      · exact .inr (gcdL_trim z zl)
    refine wh (fun m ρ => ∃ (f : List Int) (A : Nat) (x4 x5 x6 x7 x8 : Option SV), (x7 = none ∨ ∃ d, x7 = some (.dat d)) ∧ (x8 = none ∨ ∃ d, x8 = some (.dat d)) ∧ ρ = [some (.dat (.lst (l.map .int))), some (.dat (.lst (o.map .int))), some (.own (tI f)), some (.dat (.int (lastI o))), x4, x5, x6, x7, x8] ∧ m = f.length ∧ pLoop o f.length f = restP l o ∧ (A + (B + 1) * (f.length + 1 - o.length) ≤ 8000 ∧ f.length ≤ 30) ∧ ∀ c ∈ f, Sm A c)
      (fun m ρ => ∃ (f : List Int) (A : Nat) (x4 x5 x6 x7 x8 : Option SV), o.length ≤ f.length ∧ (x7 = none ∨ ∃ d, x7 = some (.dat d)) ∧ (x8 = none ∨ ∃ d, x8 = some (.dat d)) ∧ ρ = [some (.dat (.lst (l.map .int))), some (.dat (.lst (o.map .int))), some (.own (tI f)), some (.dat (.int (lastI o))), x4, x5, x6, x7, x8] ∧ m = f.length ∧ pLoop o f.length f = restP l o ∧ (A + (B + 1) * (f.length + 1 - o.length) ≤ 8000 ∧ f.length ≤ 30) ∧ ∀ c ∈ f, Sm A c)
      ⟨_, prim l, A0, none, none, none, none, none, .inl rfl, .inl rfl, rfl, rfl, by rw [prim_len]; rfl, by rw [prim_len]; exact ⟨by omega, hl⟩, ?_⟩ ?_ ?_
    · intro c m
      obtain ⟨a, ha, rfl⟩ := List.mem_map.mp m
      exact fdiv_sm (bl a ha) (by omega)
    · rintro m ρ ⟨f, A, x4, x5, x6, x7, x8, p7, p8, rfl, rfl, hR, hA, hB⟩ g hg
      simp
      rcases Nat.lt_or_ge f.length o.length with z | z
      · refine .inl ⟨z, ?_⟩
        rw [← hR, pLoop_small _ _ z] at q
        simpa [dI, oI_tI] using q
      · exact .inr ⟨z, hg _ ⟨f, A, x4, x5, x6, x7, x8, z, p7, p8, rfl, rfl, hR, hA, hB⟩⟩
    rintro m ρ ⟨f, A, x4, x5, x6, x7, x8, z, p7, p8, rfl, rfl, hR, ⟨hA, hf30⟩, hB⟩
    have f0 : f ≠ [] := fun e => by
      have : f.length = 0 := by rw [e]; rfl
      omega
    refine cut (fun ρ => ρ = [some (.dat (.lst (l.map .int))), some (.dat (.lst (o.map .int))), some (.own (tI f)), some (.dat (.int (lastI o))), some (.dat (.int ((f.length - o.length : Nat) : Int))), x5, x6, x7, x8]) ?_ fun g hg => ?_
    rotate_left
    · simp
      refine hg _ ?_
      have : (f.length : Int) - o.length = ((f.length - o.length : Nat) : Int) := by omega
      rw [this]
    rintro ρ rfl
    refine cut (fun ρ => ρ = [some (.dat (.lst (l.map .int))), some (.dat (.lst (o.map .int))), some (.own (tI f)), some (.dat (.int (lastI o))), some (.dat (.int ((f.length - o.length : Nat) : Int))), some (.dat (.int (if 0 < lastI o then lastI f else -lastI f))), x6, x7, x8]) ?_ fun g hg => ?_
    rotate_left
    · simp [tI_lastI f0]
      by_cases s : 0 < lastI o
      · exact .inr ⟨s, hg _ (by rw [if_pos s])⟩
      · exact .inl ⟨by omega, hg _ (by rw [if_neg s])⟩
    rintro ρ rfl
    have hT : Sm A (if 0 < lastI o then lastI f else -lastI f) := by
      have m : lastI f ∈ f := by
        unfold lastI
        have p := List.length_pos_iff.mpr f0
        rw [List.getD_eq_getElem?_getD, List.getElem?_eq_getElem (by omega)]
        exact List.getElem_mem _
      split
      · exact hB _ m
      · exact (hB _ m).neg
    refine cut (fun ρ => ∃ x7, (x7 = none ∨ ∃ d, x7 = some (.dat d)) ∧ ρ = [some (.dat (.lst (l.map .int))), some (.dat (.lst (o.map .int))), some (.own (tI f)), some (.dat (.int (lastI o))), some (.dat (.int ((f.length - o.length : Nat) : Int))), some (.dat (.int (if 0 < lastI o then lastI f else -lastI f))), some (.dat (.lst ((shiftD 0 (f.length - o.length) (o.map fun b => (if 0 < lastI o then lastI f else -lastI f) * b)).map .int))), x7, x8]) ?_ fun g hg => ?_
    rotate_left
    · generalize hTT : (if 0 < lastI o then lastI f else -lastI f) = T at *
      simp [repT_int]
      refine ⟨by omega, by omega, lc_map (mulI T) ?_ ?_ ?_ ?_⟩
      · simp [sizeLine]; omega
      · rcases p7 with rfl | ⟨d, rfl⟩ <;> simp [plainB]
      · intro d hd R hR
        obtain ⟨a, ha, rfl⟩ := List.mem_map.mp hd
        simp [wipeR, unwipe]
        exact ⟨hT.ok (bo a ha) (by omega), hR⟩
      · rw [mulI_all]
        refine ⟨_, rfl, by simp; omega, hg _ ⟨x7, p7, ?_⟩⟩
        simp [shiftD]
    rintro ρ ⟨x7, p7, rfl⟩
    refine halt fun g hg => ?_
    have hlen := pStep_len o0 z
    have hraw := pRaw_len z
    have hk := Nat.mul_le_mul_left (B + 1) (show (pStep o f).length + 1 - o.length + 1 ≤ f.length + 1 - o.length by omega)
    have hk1 := Nat.mul_le_mul_left (B + 1) (show 1 ≤ f.length + 1 - o.length by omega)
    rw [Nat.mul_succ] at hk
    rw [Nat.mul_one] at hk1
    have sraw := pRaw_smG z bo hB
    have sraw' : ∀ c ∈ pRaw o f, Sm (A + (B + 1)) c := sraw
    have strim : ∀ c ∈ trim (pRaw o f), Sm (A + (B + 1)) c := fun c m => sraw c (trim_sub m)
    have slo : Sm B (((lastI o).natAbs : Nat) : Int) := by
      have : Sm B (lastI o) := by
        unfold lastI
        rw [List.getD_eq_getElem?_getD, List.getElem?_eq_getElem (by omega)]
        exact bo _ (List.getElem_mem _)
      unfold Sm at *
      simpa using this
    have hR2 : pLoop o (pStep o f).length (pStep o f) = restP l o := by
      rw [← hR]
      obtain ⟨n, en⟩ : ∃ n, f.length = n + 1 := ⟨f.length - 1, by omega⟩
      rw [en, pLoop, if_pos z]
      exact pLoop_fuel o0 _ _ _ (Nat.le_refl _) (by omega)
    simp [cTrim, cPrim]
    rw [zipD_ints]
    refine lc_map (subG (lastI o).natAbs) ?_ ?_ ?_ ?_
    · simp [sizeLine, shiftD]; omega
    · rcases p7 with rfl | ⟨d, rfl⟩ <;> rcases p8 with rfl | ⟨d, rfl⟩ <;> simp [plainB]
    · intro d hd R hR
      obtain ⟨⟨a, b⟩, ha, rfl⟩ := List.mem_map.mp hd
      have ab : (if lastI o < 0 then -lastI o else lastI o) = ((lastI o).natAbs : Int) := by split <;> omega
      simp [wipeR, unwipe, ab]
      exact ⟨slo.ok (hB a (List.of_mem_zip ha).1) (by omega), by simpa using hR⟩
    · rw [subG_all]
      have tl := trim_le (pRaw o f)
      have tlen : (trim (pRaw o f)).length = (pStep o f).length := (prim_len _).symm
      refine ⟨pRaw o f, by simp [dI, pRaw], by omega, trim (pRaw o f), by rw [oI_data], by omega, fun c m => (strim c m).mono (by omega), ?_, hg _ ⟨(pStep o f).length, by omega, pStep o f, A + (B + 1), _, _, _, x7, x8, p7, p8, rfl, rfl, hR2, ⟨by omega, by omega⟩, ?_⟩⟩
      · by_cases e : trim (pRaw o f) = []
        · exact .inl e
        · exact .inr (gcdL_trim e (trim_last _))
      · intro c m
        obtain ⟨a, ha, rfl⟩ := List.mem_map.mp m
        exact fdiv_sm (strim a ha) (by omega)
theorem b_rest_of {k : Nat} {C : Ctr} (G : FnG P w K mg base CX0 k f fd (["one", "other"] : List Str) (spD K C)) (F : FunD K "rest_of" "rest_of" (defArgs s_rest_of) (defBody s_rest_of) (defScope s_rest_of) [] [] f fd) (hm : mg "rest_of" = some (.ref f)) : Hs P w K mg base "rest_of" (["one", "other"] : List Str) k C := by
  refine hsF G hm F ?_
  intro kV doc pm an cdv ct us hl
  match us, hl with
  | [u0, u1], _ => rfl

theorem g__law_pv_left (F : FunD K "_law_pv_left" "_law_pv_left" (defArgs s__law_pv_left) (defBody s__law_pv_left) (defScope s__law_pv_left) [] [] f fd)  (h__law_pv_mul : Hs P w K mg base "_law_pv_mul" ["left", "right"] 3 cMulR) (h__law_pv_ratio : Hs P w K mg base "_law_pv_ratio" ["up", "down"] 2 cRatio) (h__law_pv_add : Hs P w K mg base "_law_pv_add" ["left", "right"] 3 cAddR) (h__law_pv_shared : Hs P w K mg base "_law_pv_shared" ["left", "right"] 1 cShared) (h__law_pv_thin : Hs P w K mg base "_law_pv_thin" ["poly"] 2 cThin) (h__law_pv_trim : Hs P w K mg base "_law_pv_trim" ["some"] 1 cTrimL) (m_range : mg "range" = none) (m_len : mg "len" = none) :
    FnG P w K mg base CX0 (4) f fd (["poly", "by"] : List Str) (spD K cLeft) := by
  have S : FnScope (["poly", "by", "found", "turn", "factor", "taken", "lowest", "piece", "k"] : List Str) (["poly", "by"] : List Str) (defScope s__law_pv_left) := ⟨rfl, rfl, rfl, by decide +kernel, rfl, by decide +kernel, by decide +kernel⟩
  have nd : (["poly", "by", "found", "turn", "factor", "taken", "lowest", "piece", "k"] : List Str).Nodup := by decide +kernel
  refine okF (k := 3) [] F S (fun cdv A outer s H E hr => (ss_cons (s_set (i := 2) nd (ve (ev (e_lc (own := [("piece", 7)]) rfl nd (i_lt (n_v 0 (pv 0) rfl)) rfl (fun _ _ _ _ _ => (t_name (i := 7) nd)) (fun _ _ _ _ _ => ifs_nil) (fun _ _ _ _ _ => (ve (v_tup (g_cons (ve (n_v 7 (pv 7) rfl)) (g_cons (ve c_int) g_nil)))))))))
    (ss_cons (s_for PassesOwn.never rfl (i_rg1 m_range (os_cons (vo (p_len m_len (os_cons (n_o 0 (pv 0) rfl) os_nil))) os_nil)) (t_name (i := 3) nd) (ss_one (s_if (q_ge (vo (p_len m_len (os_cons (n_o 2 (pv 2) rfl) os_nil))) (vo (p_len m_len (os_cons (n_o 1 (pv 1) rfl) os_nil)))) (ss_cons (s_set (i := 4) nd (ve (ev (e_call h__law_pv_mul (hr.mono (by omega)) (a_val (ve (v_ix (n_o 2 (pv 2) rfl) (vo (p_neg (vo c_int))))) (a_val (ve (ev (e_call h__law_pv_ratio (hr.mono (by omega)) (a_val (ve c_int) (a_val (ve (v_ix (n_o 1 (pv 1) rfl) (vo (p_neg (vo c_int))))) a_nil))))) a_nil))))))
    (ss_cons (s_set (i := 5) nd (ve (ev (e_rep (e_lst (g_cons (ve (v_tup (g_cons (ve c_int) (g_cons (ve c_int) g_nil)))) g_nil)) (ve (p_sub (vo (p_len m_len (os_cons (n_o 2 (pv 2) rfl) os_nil))) (vo (p_len m_len (os_cons (n_o 1 (pv 1) rfl) os_nil)))))))))
    (ss_cons (s_set (i := 5) nd (ve (ev (e_add (ve (n_v 5 (pv 5) rfl)) (e_lc (own := [("piece", 7)]) rfl nd (i_lt (n_v 1 (pv 1) rfl)) rfl (fun _ _ _ _ _ => (t_name (i := 7) nd)) (fun _ _ _ _ _ => ifs_nil) (fun _ _ _ _ _ => (e_call h__law_pv_mul (hr.mono (by omega)) (a_val (ve (n_v 4 (pv 4) rfl)) (a_val (ve (v_tup (g_cons (ve (p_sub (vo c_int) (n_o 7 (pv 7) rfl))) (g_cons (ve c_int) g_nil)))) a_nil)))))))))
    (ss_one (s_set (i := 2) nd (ve (ev (e_lc (own := [("k", 8)]) rfl nd (i_rg1 m_range (os_cons (vo (p_sub (vo (p_len m_len (os_cons (n_o 2 (pv 2) rfl) os_nil))) (vo c_int))) os_nil)) rfl (fun _ _ _ _ _ => (t_name (i := 8) nd)) (fun _ _ _ _ _ => ifs_nil) (fun _ _ _ _ _ => (e_call h__law_pv_add (hr.mono (by omega)) (a_val (ve (v_ix (n_o 2 (pv 2) rfl) (n_o 8 (pv 8) rfl))) (a_val (ve (v_ix (n_o 5 (pv 5) rfl) (n_o 8 (pv 8) rfl))) a_nil)))))))))))) ss_nil)))
    (ss_cons (s_set (i := 6) nd (ve c_int))
    (ss_cons (s_for PassesOwn.never rfl (i_lt (n_v 2 (pv 2) rfl)) (t_name (i := 7) nd) (ss_one (s_set (i := 6) nd (ve (p_div (vo (p_mul (n_o 6 (pv 6) rfl) (vo (v_ix (n_o 7 (pv 7) rfl) (vo c_int))))) (vo (ev (e_call h__law_pv_shared (hr.mono (by omega)) (a_val (ve (n_v 6 (pv 6) rfl)) (a_val (ve (v_ix (n_o 7 (pv 7) rfl) (vo c_int))) a_nil))))))))))
    (ss_one (s_ret (e_call h__law_pv_thin (hr.mono (by omega)) (a_val (ve (ev (e_call h__law_pv_trim (hr.mono (by omega)) (a_val (ve (ev (e_lc (own := [("piece", 7)]) rfl nd (i_lt (n_v 2 (pv 2) rfl)) rfl (fun _ _ _ _ _ => (t_name (i := 7) nd)) (fun _ _ _ _ _ => ifs_nil) (fun _ _ _ _ _ => (ve (p_div (vo (p_mul (vo (v_ix (n_o 7 (pv 7) rfl) (vo c_int))) (n_o 6 (pv 6) rfl))) (vo (v_ix (n_o 7 (pv 7) rfl) (vo c_int))))))))) a_nil)))) a_nil))))))))) ?_ rfl ?_
  · rintro as Q ⟨l, o, A, B, rfl, _⟩; rfl
  · rintro as Q ⟨l, o, A, B, rfl, hl, ho, zl, o0, zo, bl, bo, hA0, hB0, hS, q⟩
    have op := List.length_pos_iff.mpr o0
    have lo := last_ne o0 zo
    have slo : Sm B (lastI o) := by
      unfold lastI
      rw [List.getD_eq_getElem?_getD, List.getElem?_eq_getElem (by omega)]
      exact bo _ (List.getElem_mem _)
    have eo : atI (o.map DD.int) (-1) = some (.int (lastI o)) := by
      rw [atI_mapI, atI_end, List.getLast?_eq_getElem?]
      unfold lastI
      rw [List.getD_eq_getElem?_getD, List.getElem?_eq_getElem (by omega)]
      rfl
    have z0 : DD.tup [.int 0, .int 1] = rT 0 := rfl
    have hW : ∀ s : Nat, s ≤ l.length + 1 - o.length → (B + 1) * s ≤ (B + 1) * (l.length + 1 - o.length) := fun s h => Nat.mul_le_mul_left _ h
    have hW2 : ∀ s : Nat, s + 1 ≤ l.length + 1 - o.length → (B + 1) * s + (B + 1) ≤ (B + 1) * (l.length + 1 - o.length) := fun s h => by
      have := hW _ h
      rwa [Nat.mul_succ] at this
    have hBW : ∀ s : Nat, B * s + s = (B + 1) * s := fun s => by rw [Nat.add_mul, Nat.one_mul]
    refine cut (fun ρ => ρ = [some (.dat (.lst (l.map .int))), some (.dat (.lst (o.map .int))), some (.dat (.lst ((l.map fun i : Int => (i : Rat)).map rT))), none, none, none, none, none, none]) ?_ fun g hg => ?_
    rotate_left
    · simp [dI]
      refine lc_map fracG ?_ ?_ ?_ ?_
      · simp [sizeLine]; omega
      · simp [plainB]
      · intro d hd R hR
        obtain ⟨a, ha, rfl⟩ := List.mem_map.mp hd
        simp [wipeR, unwipe, rT_int]
        exact hR
      · rw [fracG_all]
        refine hg _ ?_
        simp
    rintro ρ rfl
    refine cut (fun ρ => ∃ (F : List Rat) (s : Nat) (x3 x4 x5 x7 x8 : Option SV), lLoop o l.length (l.map fun i : Int => (i : Rat)) = F ∧ s ≤ l.length + 1 - o.length ∧ FbG (lastI o) A B s F ∧ F.length ≤ 30 ∧ (x7 = none ∨ ∃ d, x7 = some (.dat d)) ∧ ρ = [some (.dat (.lst (l.map .int))), some (.dat (.lst (o.map .int))), some (.dat (.lst (F.map rT))), x3, x4, x5, none, x7, x8]) ?_ fun g hg => ?_
    rotate_left
    · simp
      refine ⟨by omega, ?_⟩
      refine for_inv (fun i ρ => ∃ (F : List Rat) (s : Nat) (x3 x4 x5 x7 x8 : Option SV), lLoop o (l.length - i) F = lLoop o l.length (l.map fun i : Int => (i : Rat)) ∧ (s ≤ l.length + 1 - o.length ∧ F.length + s = l.length) ∧ FbG (lastI o) A B s F ∧ F.length ≤ 30 ∧ (x7 = none ∨ ∃ d, x7 = some (.dat d)) ∧ (x8 = none ∨ ∃ d, x8 = some (.dat d)) ∧ ρ = [some (.dat (.lst (l.map .int))), some (.dat (.lst (o.map .int))), some (.dat (.lst (F.map rT))), x3, x4, x5, none, x7, x8])
        ⟨_, 0, none, none, none, none, none, rfl, ⟨Nat.zero_le _, by simp⟩, FbG.start bl, by simpa using hl, .inl rfl, .inl rfl, by simp⟩ ?_ ?_
      · rintro i d ρ hd ⟨F, s, x3, x4, x5, x7, x8, hF, ⟨hs, hfs⟩, hb, hn, p7, p8, rfl⟩
        obtain ⟨rfl, hi⟩ := rg_get hd
        obtain ⟨m, em⟩ : ∃ m, l.length - i = m + 1 := ⟨l.length - i - 1, by omega⟩
        have em2 : l.length - (i + 1) = m := by omega
        rw [em, lLoop] at hF
        refine ⟨by simp, ?_⟩
        refine halt fun g2 hg2 => ?_
        refine if_go (decide (o.length ≤ F.length)) (fun Q h => by
          simp
          rcases Nat.lt_or_ge F.length o.length with w | w
          · rw [decide_eq_false (by omega)] at h; exact .inl ⟨w, h⟩
          · rw [decide_eq_true w] at h; exact .inr ⟨w, h⟩) ?_
        by_cases w : o.length ≤ F.length
        · rw [if_pos w] at hF
          rw [if_pos (by simpa using w)]
          have F0 : F ≠ [] := fun e => by
            have : F.length = 0 := by rw [e]; rfl
            omega
          have wl := lStep_len w
          have qb := fun j => hb.qb lo slo j
          have db := fun j => hb.dn lo slo j
          have hs1 : s + 1 ≤ l.length + 1 - o.length := by omega
          have w1 := hW2 s hs1
          have w2 := hBW s
          have qlo : Qb (B + 1) (Rat.divInt 1 (lastI o)) := Qb.of (smc (by
            have := Nat.pow_le_pow_right (show 0 < 2 by decide) (show 1 ≤ B + 1 by omega)
            exact Nat.lt_of_lt_of_le (by decide) this)) (slo.mono (by omega)) lo
          have dlo : Sm B ((Rat.divInt 1 (lastI o)).den : Int) := den_le lo slo
          have qf := (qb (F.length - 1)).mul qlo
          have df := den_mul _ _ (db (F.length - 1)) dlo
          have df0 := (db (F.length - 1)).mul dlo
          have qlo0 := qlo
          have ef : Rat.divInt 1 (lastI o) = 1 / (lastI o : Rat) := by rw [Rat.divInt_eq_div, Rat.intCast_one]
          rw [ef] at qf qlo df
          refine cut (fun ρ => ρ = [some (.dat (.lst (l.map .int))), some (.dat (.lst (o.map .int))), some (.dat (.lst (F.map rT))), some (.dat (.int i)), some (.dat (rT (lastQ F * (1 / (lastI o : Rat))))), x5, none, x7, x8]) ?_ fun g3 hg3 => ?_
          rotate_left
          · simp [cMulR, cRatio, eo, ratsD_last F0]
            exact ⟨lo, slo.mono (by omega), (qb _).mono (by omega), qlo0.mono (by omega), df0.mono (by omega), hg3 _ (by rw [ef])⟩
          rintro ρ rfl
          have qX : Qb (A + (B + 1) * s + 1 + (B + 1)) (lastQ F * (1 / (lastI o : Rat))) := qf
          have dX : Sm (B * s + 1 + B) ((lastQ F * (1 / (lastI o : Rat))).den : Int) := df
          have eL : lStep o F = (List.zipWith (· + ·) F (shiftD 0 (F.length - o.length) (o.map fun b : Int => lastQ F * (1 / (lastI o : Rat)) * (0 - (b : Rat))))).dropLast := rfl
          generalize lastQ F * (1 / (lastI o : Rat)) = X at *
          refine cut (fun ρ => ρ = [some (.dat (.lst (l.map .int))), some (.dat (.lst (o.map .int))), some (.dat (.lst (F.map rT))), some (.dat (.int i)), some (.dat (rT X)), some (.dat (.lst (List.replicate (F.length - o.length) (rT 0)))), none, x7, x8]) ?_ fun g3 hg3 => ?_
          rotate_left
          · simp [z0, repT]
            exact ⟨by omega, by omega, by omega, hg3 _ rfl⟩
          rintro ρ rfl
          refine cut (fun ρ => ρ = [some (.dat (.lst (l.map .int))), some (.dat (.lst (o.map .int))), some (.dat (.lst (F.map rT))), some (.dat (.int i)), some (.dat (rT X)), some (.dat (.lst ((shiftD 0 (F.length - o.length) (o.map fun b : Int => X * (0 - (b : Rat)))).map rT))), none, x7, x8]) ?_ fun g3 hg3 => ?_
          rotate_left
          · simp [cMulR]
            refine lc_map (scaleG X) ?_ ?_ ?_ ?_
            · simp [sizeLine]; omega
            · rcases p7 with rfl | ⟨d, rfl⟩ <;> simp [plainB]
            · intro d hd R hR
              obtain ⟨a, ha, rfl⟩ := List.mem_map.mp hd
              have sa : Qb (B + 1) (((0 - a : Int)) : Rat) := Qb.int (by rw [Int.zero_sub]; exact (bo a ha).neg.mono (by omega)) (by omega)
              have da : Sm 1 (((((0 - a : Int)) : Rat).den : Nat) : Int) := by rw [Rat.den_intCast]; exact smc
              have ea : (((0 - a : Int)) : Rat) = 0 - (a : Rat) := by rw [Rat.intCast_sub, Rat.intCast_zero]
              rw [scaleG_int] at hR
              rw [ea] at sa da
              simp only [wipeR, unwipe]
              simp [rT_int, cMulR]
              exact ⟨qX.mono (by omega), sa.mono (by omega), (dX.mul da).mono (by omega), hR⟩
            · rw [scaleG_all]
              refine ⟨_, rfl, by simp; omega, hg3 _ ?_⟩
              simp [shiftD]
          rintro ρ rfl
          have tlen : (shiftD (0 : Rat) (F.length - o.length) (o.map fun b : Int => X * (0 - (b : Rat)))).length = F.length := by simp [shiftD]; omega
          have tz : ∀ k : Nat, Qb (A + (B + 1) * s + 1 + (B + 1) + (B + 1)) ((shiftD (0 : Rat) (F.length - o.length) (o.map fun b : Int => X * (0 - (b : Rat)))).getD k 0) ∧ Sm (B * s + 1 + B + 1) (((shiftD (0 : Rat) (F.length - o.length) (o.map fun b : Int => X * (0 - (b : Rat)))).getD k 0).den : Int) := fun k => by
            rw [shiftD_get, getD_map _ 0 0 (by rw [Rat.intCast_zero]; grind)]
            split
            · refine ⟨?_, smc (by simp)⟩
              show Qb _ ((0 : Int) : Rat)
              exact Qb.int (smc (by simp; exact Nat.pow_pos (by decide))) (by omega)
            · have sa : Qb (B + 1) (((0 - o.getD (k - (F.length - o.length)) 0 : Int)) : Rat) := Qb.int (by rw [Int.zero_sub]; exact (getD_sm _ bo).neg.mono (by omega)) (by omega)
              have da : Sm 1 (((((0 - o.getD (k - (F.length - o.length)) 0 : Int)) : Rat).den : Nat) : Int) := by rw [Rat.den_intCast]; exact smc
              rw [Rat.intCast_sub, Rat.intCast_zero] at sa da
              exact ⟨qX.mul sa, den_mul _ _ dX da⟩
          have tq := fun k => (tz k).1
          have td := fun k => (tz k).2
          generalize shiftD (0 : Rat) (F.length - o.length) (o.map fun b : Int => X * (0 - (b : Rat))) = T at *
          simp
          refine ⟨by omega, by omega, lc_map (addQ F T) ?_ ?_ ?_ ?_⟩
          · simp [sizeLine, rgD]; omega
          · rcases p8 with rfl | ⟨d, rfl⟩ <;> simp [plainB]
          · intro d hd R hR
            simp [rgD] at hd
            obtain ⟨k, hk, rfl⟩ := hd
            simp only [addQ, Int.toNat_natCast] at hR
            simp only [wipeR, unwipe]
            simp [cAddR, ratsD_at (show k < F.length by omega), ratsD_at (show k < T.length by omega)]
            exact ⟨(qb k).mono (by omega), (tq k).mono (by omega), ((db k).mul (td k)).mono (by omega), hR⟩
          · rw [addQ_all F T tlen, ← eL]
            refine hg2 _ ⟨lStep o F, s + 1, some (.dat (.int i)), some (.dat (rT X)), some (.dat (.lst (T.map rT))), x7, x8, by rw [em2]; exact hF, ⟨by omega, by omega⟩, hb.step lo bo w, by omega, p7, p8, ?_⟩
            simp
        · rw [if_neg w] at hF
          rw [if_neg (by simpa using w)]
          exact hg2 _ ⟨F, s, _, x4, x5, x7, x8, by rw [em2]; exact hF, ⟨hs, hfs⟩, hb, hn, p7, p8, rfl⟩
      · rintro ρ ⟨F, s, x3, x4, x5, x7, x8, hF, ⟨hs, hfs⟩, hb, hn, p7, p8, rfl⟩
        have e : l.length - (rgD 0 1 l.length).length = 0 := by simp [rgD]
        rw [e] at hF
        exact hg _ ⟨F, s, x3, x4, x5, x7, x8, hF.symm, hs, hb, hn, p7, rfl⟩
    rintro ρ ⟨F, s, x3, x4, x5, x7, x8, hF, hs, hb, hn, p7, rfl⟩
    have qb := fun j => hb.qb lo slo j
    have db := fun j => hb.dn lo slo j
    have w0 := hW s hs
    have w2 := hBW s
    have lp : 0 < (lastI o ^ s).natAbs := by
      have : lastI o ^ s ≠ 0 := Int.pow_ne_zero lo
      omega
    have ls : Sm 8001 (lastI o ^ s) := (slo.pow s).mono (by omega)
    have msm : ∀ {M : Nat}, M ∣ (lastI o ^ s).natAbs → Sm 8001 (M : Int) := fun {M} h => ls.le (by simpa using Nat.le_of_dvd lp h)
    refine cut (fun ρ => ρ = [some (.dat (.lst (l.map .int))), some (.dat (.lst (o.map .int))), some (.dat (.lst (F.map rT))), x3, x4, x5, some (.dat (.int ((1 : Nat) : Int))), x7, x8]) ?_ fun g hg => ?_
    rotate_left
    · simp
      exact hg _ rfl
    rintro ρ rfl
    refine cut (fun ρ => ∃ (M : Nat) (y : Option SV), 0 < M ∧ M ∣ (lastI o ^ s).natAbs ∧ (∀ j, j < F.length → (F.getD j 0).den ∣ M) ∧ (y = none ∨ ∃ d, y = some (.dat d)) ∧ ρ = [some (.dat (.lst (l.map .int))), some (.dat (.lst (o.map .int))), some (.dat (.lst (F.map rT))), x3, x4, x5, some (.dat (.int M)), y, x8]) ?_ fun g hg => ?_
    rotate_left
    · simp
      refine for_inv (fun i ρ => ∃ (M : Nat) (y : Option SV), 0 < M ∧ M ∣ (lastI o ^ s).natAbs ∧ (∀ j, j < i → (F.getD j 0).den ∣ M) ∧ (y = none ∨ ∃ d, y = some (.dat d)) ∧ ρ = [some (.dat (.lst (l.map .int))), some (.dat (.lst (o.map .int))), some (.dat (.lst (F.map rT))), x3, x4, x5, some (.dat (.int M)), y, x8])
        ⟨1, x7, by decide, Nat.one_dvd _, fun j h => absurd h (by omega), p7, rfl⟩ ?_ ?_
      · rintro i d ρ hd ⟨M, y, m0, md, mj, py, rfl⟩
        obtain ⟨hi, ed⟩ := List.getElem?_eq_some_iff.mp hd
        simp only [List.length_map] at hi
        have ed2 : d = rT (F.getD i 0) := by
          rw [← ed, List.getD_eq_getElem?_getD, List.getElem?_eq_getElem hi]
          simp
        subst ed2
        refine ⟨by simp, halt fun g2 hg2 => ?_⟩
        have sd : Sm 8001 ((F.getD i 0).den : Int) := (db i).mono (by omega)
        have fin := hg2 [some (.dat (.lst (l.map .int))), some (.dat (.lst (o.map .int))), some (.dat (.lst (F.map rT))), x3, x4, x5, some (.dat (.int ((Nat.lcm M (F.getD i 0).den : Nat) : Int))), some (.dat (rT (F.getD i 0))), x8] ⟨_, _, Nat.lcm_pos m0 (F.getD i 0).den_pos, Nat.lcm_dvd md (hb.den lo i), fun j h => by
          by_cases e : j = i
          · subst e; exact Nat.dvd_lcm_right _ _
          · exact Nat.dvd_trans (mj j (by omega)) (Nat.dvd_lcm_left _ _), .inr ⟨_, rfl⟩, rfl⟩
        generalize F.getD i 0 = x at *
        have gs := gcd_small (a := (M : Int)) (rden x) sd
        have el : ((M : Int) * (x.den : Int)).fdiv ((Nat.gcd M x.den : Nat) : Int) = ((Nat.lcm M x.den : Nat) : Int) := lcm_step M x.den
        simp [rT, cShared]
        exact ⟨(msm md).ok sd, sd.mono (by decide), fun _ => x.den_nz, (show Sm 8001 ((Nat.gcd M x.den : Nat) : Int) from gs).pylong _, by rw [el]; exact fin⟩
      · rintro ρ ⟨M, y, m0, md, mj, py, rfl⟩
        exact hg _ ⟨M, y, m0, md, fun j h => mj j (by simpa using h), py, rfl⟩
    rintro ρ ⟨M, y, m0, md, mj, py, rfl⟩
    have mx : ∀ x ∈ F, x.den ∣ M := fun x m => by
      obtain ⟨j, hj, e⟩ := List.getElem_of_mem m
      have := mj j hj
      rw [List.getD_eq_getElem?_getD, List.getElem?_eq_getElem hj] at this
      rw [← e]; exact this
    have xq : ∀ x ∈ F, Qb 8001 x := fun x m => by
      obtain ⟨j, hj, e⟩ := List.getElem_of_mem m
      have := (qb j).mono (show _ ≤ 8001 by omega)
      rw [List.getD_eq_getElem?_getD, List.getElem?_eq_getElem hj] at this
      rw [← e]; exact this
    have law := rest_law zl o0 zo (h := upQ M F) (by rw [hF]; exact upQ_rel m0 mx)
    have up : ∀ c ∈ upQ M F, Sm 8000 c := fun c m => (hb.up lo md mx c m).mono (by omega)
    have ul : (upQ M F).length = F.length := by simp [upQ]
    have tl := trim_le (upQ M F)
    simp [cTrimL, cThin]
    refine lc_map (upG M) ?_ ?_ ?_ ?_
    · simp [sizeLine]; omega
    · rcases py with rfl | ⟨d, rfl⟩ <;> simp [plainB]
    · intro d hd R hR
      obtain ⟨x, hx, rfl⟩ := List.mem_map.mp hd
      have hR2 : R (.dat (.int ((x.num * (M : Int)).fdiv (x.den : Int)))) _ := hR
      simp [wipeR, unwipe, rT]
      exact ⟨(xq x hx).n.ok (msm md), x.den_nz, (xq x hx).d.pylong _, hR2⟩
    · rw [upG_all mx]
      refine ⟨upQ M F, by simp [dI], by omega, trim (upQ M F), by rw [oI_data], by omega, fun c m => up c (trim_sub m), ?_, ?_⟩
      · by_cases e : trim (upQ M F) = []
        · exact .inl e
        · exact .inr (gcdL_trim e (trim_last _))
      · rw [← law]
        exact q
theorem b__law_pv_left {k : Nat} {C : Ctr} (G : FnG P w K mg base CX0 k f fd (["poly", "by"] : List Str) (spD K C)) (F : FunD K "_law_pv_left" "_law_pv_left" (defArgs s__law_pv_left) (defBody s__law_pv_left) (defScope s__law_pv_left) [] [] f fd) (hm : mg "_law_pv_left" = some (.ref f)) : Hs P w K mg base "_law_pv_left" (["poly", "by"] : List Str) k C := by
  refine hsF G hm F ?_
  intro kV doc pm an cdv ct us hl
  match us, hl with
  | [u0, u1], _ => rfl

theorem g_slope (F : FunD K "slope" "slope" (defArgs s_slope) (defBody s_slope) (defScope s_slope) [] [] f fd)  (m_enumerate : mg "enumerate" = none) :
    FnG P w K mg base CX0 (1) f fd (["one"] : List Str) (spD K cSlope) := by
  have S : FnScope (["one", "rank", "number"] : List Str) (["one"] : List Str) (defScope s_slope) := ⟨rfl, rfl, rfl, by decide +kernel, rfl, by decide +kernel, by decide +kernel⟩
  have nd : (["one", "rank", "number"] : List Str).Nodup := by decide +kernel
  refine okF (k := 0) [] F S (fun cdv A outer s H E hr => (ss_one (s_ret (e_sl (vo (ev (e_lc (own := [("rank", 1), ("number", 2)]) rfl nd (i_en m_enumerate (g_cons (ve (n_v 0 (pv 0) rfl)) g_nil)) rfl (fun _ _ _ _ _ => (t_tup (n := 2) rfl (ts_cons (t_name (i := 1) nd) (ts_cons (t_name (i := 2) nd) ts_nil)))) (fun _ _ _ _ _ => ifs_nil) (fun _ _ _ _ _ => (ve (p_mul (n_o 1 (pv 1) rfl) (n_o 2 (pv 2) rfl))))))) (s_some (vo c_int)) s_none)))) ?_ rfl ?_
  · rintro as Q ⟨l, rfl, _⟩; rfl
  · rintro as Q ⟨l, rfl, hn, hb, q⟩
    simp [dI]
    refine lc_map mulD ?_ ?_ ?_ ?_
    · simp [sizeLine]; omega
    · simp [plainB]
    · intro d hd R hR
      obtain ⟨i, a, hi, rfl⟩ := enumI_mem hd
      have := (List.getElem?_eq_some_iff.mp hi).1
      simp [wipeR, unwipe]
      exact ⟨IntMulOk.of_left (Sm.bits (k := 64) (by unfold Sm; simp only [Int.natAbs_natCast]; omega)), hR⟩
    · rw [mulD_all]
      show slT (.dat (oI (rk 0 l)).data) (some 1) none _
      rw [oI_data]
      simp [dI, cut_from1]
      simpa [oI, tI, slopeP, dI, Function.comp_def] using q
theorem b_slope {k : Nat} {C : Ctr} (G : FnG P w K mg base CX0 k f fd (["one"] : List Str) (spD K C)) (F : FunD K "slope" "slope" (defArgs s_slope) (defBody s_slope) (defScope s_slope) [] [] f fd) (hm : mg "slope" = some (.ref f)) : Hs P w K mg base "slope" (["one"] : List Str) k C := by
  refine hsF G hm F ?_
  intro kV doc pm an cdv ct us hl
  match us, hl with
  | [u0], _ => rfl

theorem g__law_pv_slope (F : FunD K "_law_pv_slope" "_law_pv_slope" (defArgs s__law_pv_slope) (defBody s__law_pv_slope) (defScope s__law_pv_slope) [] [] f fd)  (m_enumerate : mg "enumerate" = none) :
    FnG P w K mg base CX0 (1) f fd (["poly"] : List Str) (spD K cSlope) := by
  have S : FnScope (["poly", "k", "piece"] : List Str) (["poly"] : List Str) (defScope s__law_pv_slope) := ⟨rfl, rfl, rfl, by decide +kernel, rfl, by decide +kernel, by decide +kernel⟩
  have nd : (["poly", "k", "piece"] : List Str).Nodup := by decide +kernel
  refine okF (k := 0) [] F S (fun cdv A outer s H E hr => (ss_one (s_ret (e_sl (vo (ev (e_lc (own := [("k", 1), ("piece", 2)]) rfl nd (i_en m_enumerate (g_cons (ve (n_v 0 (pv 0) rfl)) g_nil)) rfl (fun _ _ _ _ _ => (t_tup (n := 2) rfl (ts_cons (t_name (i := 1) nd) (ts_cons (t_name (i := 2) nd) ts_nil)))) (fun _ _ _ _ _ => ifs_nil) (fun _ _ _ _ _ => (ve (p_mul (n_o 1 (pv 1) rfl) (n_o 2 (pv 2) rfl))))))) (s_some (vo c_int)) s_none)))) ?_ rfl ?_
  · rintro as Q ⟨l, rfl, _⟩; rfl
  · rintro as Q ⟨l, rfl, hn, hb, q⟩
    simp [dI]
    refine lc_map mulD ?_ ?_ ?_ ?_
    · simp [sizeLine]; omega
    · simp [plainB]
    · intro d hd R hR
      obtain ⟨i, a, hi, rfl⟩ := enumI_mem hd
      have := (List.getElem?_eq_some_iff.mp hi).1
      simp [wipeR, unwipe]
      exact ⟨IntMulOk.of_left (Sm.bits (k := 64) (by unfold Sm; simp only [Int.natAbs_natCast]; omega)), hR⟩
    · rw [mulD_all]
      show slT (.dat (oI (rk 0 l)).data) (some 1) none _
      rw [oI_data]
      simp [dI, cut_from1]
      simpa [oI, tI, slopeP, dI, Function.comp_def] using q
theorem b__law_pv_slope {k : Nat} {C : Ctr} (G : FnG P w K mg base CX0 k f fd (["poly"] : List Str) (spD K C)) (F : FunD K "_law_pv_slope" "_law_pv_slope" (defArgs s__law_pv_slope) (defBody s__law_pv_slope) (defScope s__law_pv_slope) [] [] f fd) (hm : mg "_law_pv_slope" = some (.ref f)) : Hs P w K mg base "_law_pv_slope" (["poly"] : List Str) k C := by
  refine hsF G hm F ?_
  intro kV doc pm an cdv ct us hl
  match us, hl with
  | [u0], _ => rfl

theorem g_sign_at (F : FunD K "sign_at" "sign_at" (defArgs s_sign_at) (defBody s_sign_at) (defScope s_sign_at) [] [] f fd)  (h_parts_at : Hs P w K mg base "parts_at" ["one", "spot"] 1 cParts) (m_int : mg "int" = none) :
    FnG P w K mg base CX0 (2) f fd (["one", "spot"] : List Str) (spD K cSignAt) := by
  have S : FnScope (["one", "spot", "found"] : List Str) (["one", "spot"] : List Str) (defScope s_sign_at) := ⟨rfl, rfl, rfl, by decide +kernel, rfl, by decide +kernel, by decide +kernel⟩
  have nd : (["one", "spot", "found"] : List Str).Nodup := by decide +kernel
  refine okF (k := 1) [] F S (fun cdv A outer s H E hr => (ss_cons (s_set (i := 2) nd (ve (v_ix (vo (ev (e_call h_parts_at (hr.mono (by omega)) (a_val (ve (n_v 0 (pv 0) rfl)) (a_val (ve (n_v 1 (pv 1) rfl)) a_nil))))) (vo c_int))))
    (ss_one (s_ret (ve (p_sub (vo (p_int m_int (os_cons (vo (p_gt (n_o 2 (pv 2) rfl) (vo c_int))) os_nil))) (vo (p_int m_int (os_cons (vo (p_lt (n_o 2 (pv 2) rfl) (vo c_int))) os_nil))))))))) ?_ rfl ?_
  · rintro as Q ⟨p, x, rfl, _⟩; rfl
  · rintro as Q ⟨p, x, rfl, hp, hx, q⟩
    simp [cParts]
    refine ⟨_, hp.b, _, hx, tb_ev hp.n, ?_⟩
    rw [← parts_sgn] at q
    unfold sgnI at q
    generalize (partsP p x).1 = a at *
    rcases Int.lt_trichotomy a 0 with h | h | h
    · rw [if_neg (by omega), if_pos h] at q
      exact .inl ⟨by omega, .inr ⟨h, q⟩⟩
    · subst h
      exact .inl ⟨by omega, .inl ⟨by omega, q⟩⟩
    · rw [if_pos h] at q
      exact .inr ⟨h, .inl ⟨by omega, q⟩⟩
theorem b_sign_at {k : Nat} {C : Ctr} (G : FnG P w K mg base CX0 k f fd (["one", "spot"] : List Str) (spD K C)) (F : FunD K "sign_at" "sign_at" (defArgs s_sign_at) (defBody s_sign_at) (defScope s_sign_at) [] [] f fd) (hm : mg "sign_at" = some (.ref f)) : Hs P w K mg base "sign_at" (["one", "spot"] : List Str) k C := by
  refine hsF G hm F ?_
  intro kV doc pm an cdv ct us hl
  match us, hl with
  | [u0, u1], _ => rfl

theorem g_end_sign (F : FunD K "end_sign" "end_sign" (defArgs s_end_sign) (defBody s_end_sign) (defScope s_end_sign) [] [] f fd)  (h_sign_at : Hs P w K mg base "sign_at" ["one", "spot"] 2 cSignAt) :
    FnG P w K mg base CX0 (3) f fd (["one", "spot"] : List Str) (spD K cSign) := by
  have S : FnScope (["one", "spot", "first", "number"] : List Str) (["one", "spot"] : List Str) (defScope s_end_sign) := ⟨rfl, rfl, rfl, by decide +kernel, rfl, by decide +kernel, by decide +kernel⟩
  have nd : (["one", "spot", "first", "number"] : List Str).Nodup := by decide +kernel
  refine okF (k := 2) [] F S (fun cdv A outer s H E hr => (ss_cons (s_if (q_eq hr.r (n_o 0 (pv 0) rfl) (vo (ev (e_lst g_nil)))) (ss_one (s_ret (ve c_int))) ss_nil)
    (ss_cons (s_if (q_isN (n_o 1 (pv 1) rfl) (vo c_non)) (ss_one (s_ret (e_if (q_gt (vo (v_ix (n_o 0 (pv 0) rfl) (vo (p_neg (vo c_int))))) (vo c_int)) (ve c_int) (ve (p_neg (vo c_int)))))) ss_nil)
    (ss_cons (s_if (q_eq hr.r (n_o 1 (pv 1) rfl) (vo (v_tup (g_cons (ve c_int) (g_cons (ve c_int) g_nil))))) (ss_cons (s_set (i := 2) nd (ve (v_ix (vo (ev (e_lc (own := [("number", 3)]) rfl nd (i_lt (n_v 0 (pv 0) rfl)) rfl (fun _ _ _ _ _ => (t_name (i := 3) nd)) (fun _ _ _ _ _ => (ifs_one (q_ne hr.r (n_o 3 (pv 3) rfl) (vo c_int)))) (fun _ _ _ _ _ => (ve (n_v 3 (pv 3) rfl)))))) (vo c_int))))
    (ss_one (s_ret (e_if (q_gt (n_o 2 (pv 2) rfl) (vo c_int)) (ve c_int) (ve (p_neg (vo c_int))))))) ss_nil)
    (ss_one (s_ret (e_call h_sign_at (hr.mono (by omega)) (a_val (ve (n_v 0 (pv 0) rfl)) (a_val (ve (n_v 1 (pv 1) rfl)) a_nil))))))))) ?_ rfl ?_
  · rintro as Q ⟨p, x, rfl, _⟩; rfl
  · rintro as Q ⟨p, sp, rfl, hp, hx, q⟩
    have e0 : eqD (dI p) (.lst []) = decide (p = []) := by simp [dI]
    by_cases p0 : p = []
    · subst p0
      have z : signE [] sp = 0 := by
        cases sp with
        | none => rfl
        | some x => show (if x = 0 then sgnI (fnz []) else sgnI (evalR [] x).num) = 0; split <;> rfl
      rw [z] at q
      simp [e0]
      exact ⟨okD_nil, q⟩
    · have lz := last_ne p0 hp.z
      cases sp with
      | none =>
        simp [e0, p0, dS, isN, tld]
        refine ⟨okD_lint, ?_⟩
        simp [dI, ints_last p p0]
        unfold signE sgnI at q
        rcases Int.lt_trichotomy (lastI p) 0 with h | h | h
        · rw [if_neg (by omega), if_pos h] at q
          exact .inl ⟨by omega, q⟩
        · exact absurd h lz
        · rw [if_pos h] at q
          exact .inr ⟨h, q⟩
      | some x =>
        simp [e0, p0, dS, eqD_r0, cSignAt]
        refine ⟨okD_lint, okD_rT x, ?_⟩
        by_cases x0 : x = 0
        · rw [if_pos x0]
          change Q (.dat (.int (if x = 0 then sgnI (fnz p) else sgnI (evalR p x).num))) _ at q
          rw [if_pos x0] at q
          simp [dI]
          refine lc_filt nzD SV.dat ?_ ?_ ?_ ?_
          · have := hp.n; simp [sizeLine]; omega
          · simp [plainB]
          · intro d hd R S h1 h2
            obtain ⟨a, _, rfl⟩ := List.mem_map.mp hd
            simp [wipeR, unwipe]
            by_cases a0 : a = 0
            · exact .inl ⟨a0, h2 (by simp [nzD, a0])⟩
            · exact .inr ⟨a0, h1 (by simp [nzD, a0])⟩
          · rw [nzD_all]
            have f0 := fnz_ne hp.z p0
            obtain ⟨b, r, er⟩ := List.exists_cons_of_ne_nil (fun e => p0 ((nz_nil hp.z).mp e))
            have ef : fnz p = b := by unfold fnz; rw [er]; rfl
            rw [ef] at q f0
            rw [er]
            simp [tI, SV.datas]
            unfold sgnI at q
            rcases Int.lt_trichotomy b 0 with h | h | h
            · rw [if_neg (by omega), if_pos h] at q
              exact .inl ⟨by omega, q⟩
            · exact absurd h f0
            · rw [if_pos h] at q
              exact .inr ⟨h, q⟩
        · rw [if_neg x0]
          change Q (.dat (.int (if x = 0 then sgnI (fnz p) else sgnI (evalR p x).num))) _ at q
          rw [if_neg x0] at q
          exact ⟨hp, hx x rfl, q⟩
theorem b_end_sign {k : Nat} {C : Ctr} (G : FnG P w K mg base CX0 k f fd (["one", "spot"] : List Str) (spD K C)) (F : FunD K "end_sign" "end_sign" (defArgs s_end_sign) (defBody s_end_sign) (defScope s_end_sign) [] [] f fd) (hm : mg "end_sign" = some (.ref f)) : Hs P w K mg base "end_sign" (["one", "spot"] : List Str) k C := by
  refine hsF G hm F ?_
  intro kV doc pm an cdv ct us hl
  match us, hl with
  | [u0, u1], _ => rfl

theorem g_row_of (F : FunD K "row_of" "row_of" (defArgs s_row_of) (defBody s_row_of) (defScope s_row_of) [] [] f fd)  (h_slope : Hs P w K mg base "slope" ["one"] 1 cSlope) (h_rest_of : Hs P w K mg base "rest_of" ["one", "other"] 3 cRestOf) (m_list : mg "list" = none) (m_len : mg "len" = none) :
    FnG P w K mg base CX0 (4) f fd (["one"] : List Str) (spD K cRow) := by
  have S : FnScope (["one", "found", "left", "number"] : List Str) (["one"] : List Str) (defScope s_row_of) := ⟨rfl, rfl, rfl, by decide +kernel, rfl, by decide +kernel, by decide +kernel⟩
  have nd : (["one", "found", "left", "number"] : List Str).Nodup := by decide +kernel
  refine okF (k := 3) [] F S (fun cdv A outer s H E hr => (ss_cons (s_set (i := 1) nd (e_lst (g_cons (e_list m_list (n_o 0 (pv 0) rfl)) g_nil)))
    (ss_cons (s_if (q_gt (vo (p_len m_len (os_cons (n_o 0 (pv 0) rfl) os_nil))) (vo c_int)) (ss_one (s_expr (e_app 1 (pv 1) rfl (e_call h_slope (hr.mono (by omega)) (a_val (ve (n_v 0 (pv 0) rfl)) a_nil)) rfl (fun t h => pe_bm PySem.F.plainAttrs_list PySem.F.slot_list_append PySem.F.type_list_append mt_append (pv 1) h)))) ss_nil)
    (ss_cons (s_while PassesOwn.never (q_gt (vo (p_len m_len (os_cons (n_o 1 (pv 1) rfl) os_nil))) (vo c_int)) (ss_cons (s_set (i := 2) nd (ve (ev (e_frz (e_call h_rest_of (hr.mono (by omega)) (a_val (ve (v_ix (n_o 1 (pv 1) rfl) (vo (p_neg (vo c_int))))) (a_val (ve (v_ix (n_o 1 (pv 1) rfl) (vo (p_neg (vo c_int))))) a_nil)))))))
    (ss_cons (s_if (q_eq hr.r (n_o 2 (pv 2) rfl) (vo (ev (e_lst g_nil)))) (ss_one s_brk) ss_nil)
    (ss_one (s_expr (e_app 1 (pv 1) rfl (e_lc (own := [("number", 3)]) rfl nd (i_lt (n_v 2 (pv 2) rfl)) rfl (fun _ _ _ _ _ => (t_name (i := 3) nd)) (fun _ _ _ _ _ => ifs_nil) (fun _ _ _ _ _ => (ve (p_neg (n_o 3 (pv 3) rfl))))) rfl (fun t h => pe_bm PySem.F.plainAttrs_list PySem.F.slot_list_append PySem.F.type_list_append mt_append (pv 1) h)))))))
    (ss_one (s_ret (n_mv 1 (pv 1) rfl))))))) ?_ rfl ?_
  · rintro as Q ⟨l, rfl, _⟩; rfl
  · rintro as Q ⟨l, rfl, l0, hl, q⟩
    have hn := hl.n
    refine cut (fun ρ => ρ = [some (.dat (dI l)), some (oL [l]), none, none]) ?_ fun g hg => ?_
    rotate_left
    · simp [dI]
      exact hg _ (by simp [oL, oI, dI, Function.comp_def])
    rintro ρ rfl
    refine cut (fun ρ => ∃ acc : List (List Int), ρ = [some (.dat (dI l)), some (oL acc), none, none] ∧ (acc = rowOf l ∧ acc.length ≤ 1 ∨ acc = [l, slopeP l] ∧ 1 < l.length)) ?_ fun g hg => ?_
    rotate_left
    · simp [dI, cSlope]
      rcases Nat.lt_or_ge 1 l.length with h | h
      · refine .inr ⟨by omega, ⟨_, rfl⟩, by omega, hl.b.sm (k := 8000) (Nat.lt_of_lt_of_le (show 1000000 < 2 ^ 20 by decide) (Nat.pow_le_pow_right (by decide) (by decide))), _, rfl, by simp, hg _ ⟨[l, slopeP l], rfl, .inr ⟨rfl, h⟩⟩⟩
      · refine .inl ⟨by omega, hg _ ⟨[l], rfl, .inl ⟨?_, by simp⟩⟩⟩
        unfold rowOf
        rw [if_neg (by omega)]
    rintro ρ ⟨acc, rfl, hacc⟩
    refine cut (fun ρ => ∃ x2 x3 : Option SV, ρ = [some (.dat (dI l)), some (oL (rowOf l)), x2, x3]) ?_ fun g hg => ?_
    · rintro ρ ⟨x2, x3, rfl⟩
      simpa using q
    refine wh (fun m ρ => ∃ (acc : List (List Int)) (x2 x3 : Option SV), (x3 = none ∨ ∃ d, x3 = some (.dat d)) ∧ ρ = [some (.dat (dI l)), some (oL acc), x2, x3] ∧ (acc = rowOf l ∧ acc.length ≤ 1 ∨ ∃ pre x y n, acc = pre ++ [x, y] ∧ Pr x y ∧ rowOf l = acc ++ chainT n x y ∧ y.length ≤ n ∧ m = y.length))
      (fun m ρ => ∃ (acc : List (List Int)) (x2 x3 : Option SV), (x3 = none ∨ ∃ d, x3 = some (.dat d)) ∧ ρ = [some (.dat (dI l)), some (oL acc), x2, x3] ∧ (∃ pre x y n, acc = pre ++ [x, y] ∧ Pr x y ∧ rowOf l = acc ++ chainT n x y ∧ y.length ≤ n ∧ m = y.length))
      ?_ ?_ ?_
    · rcases hacc with ⟨h1, h2⟩ | ⟨rfl, h2⟩
      · exact ⟨0, acc, none, none, .inl rfl, rfl, .inl ⟨h1, h2⟩⟩
      · refine ⟨(slopeP l).length, _, none, none, .inl rfl, rfl, .inr ⟨[], l, slopeP l, l.length, rfl, Pr.start h2 hn hl.b hl.z, ?_, by rw [slope_len]; omega, rfl⟩⟩
        unfold rowOf
        rw [if_pos h2]
        rfl
    · rintro m ρ ⟨acc, x2, x3, p3, rfl, h⟩ g2 hg2
      rcases h with ⟨h1, h2⟩ | ⟨pre, x, y, n, h1, h2, h3, h4, h5⟩
      · simp [oL_data, dL]
        exact .inl ⟨by omega, hg _ ⟨x2, x3, by rw [h1]⟩⟩
      · simp [oL_data, dL]
        have : 2 ≤ acc.length := by rw [h1]; simp
        exact .inr ⟨by omega, hg2 _ ⟨acc, x2, x3, p3, rfl, pre, x, y, n, h1, h2, h3, h4, h5⟩⟩
    rintro m ρ ⟨acc, x2, x3, p3, rfl, pre, x, y, n, rfl, hp, h3, h4, rfl⟩
    refine halt fun g2 hg2 => ?_
    obtain ⟨z1, z2, z3⟩ := hp.sz
    have n8 := hp.n
    have nlt := hp.lt
    have rlt := restP_lt (l := x) hp.y0
    have yp := List.length_pos_iff.mpr hp.y0
    refine cut (fun ρ => ρ = [some (.dat (dI l)), some (oL (pre ++ [x, y])), some (.dat (dI (restP x y))), x3]) ?_ fun g3 hg3 => ?_
    rotate_left
    · simp [oL_data, dL, cRestOf]
      refine ⟨_, atI_two _ _ _, _, atI_one2 _ _ _, x, rfl, y, rfl, by omega, by omega, hp.zx, hp.y0, hp.zy, _, hp.bx, _, hp.cy, z1, z2, z3, ?_⟩
      rw [oI_data]
      exact hg3 _ rfl
    rintro ρ rfl
    have e0 : eqD (dI (restP x y)) (.lst []) = decide (restP x y = []) := by simp [dI]
    obtain ⟨k, rfl⟩ : ∃ k, n = k + 1 := ⟨n - 1, by omega⟩
    rw [chainT] at h3
    by_cases r0 : restP x y = []
    · rw [if_pos r0] at h3
      simp [e0, r0]
      refine ⟨okD_nil, hg _ ⟨some (.dat (dI [])), x3, ?_⟩⟩
      rw [h3, List.append_nil]
    · rw [if_neg r0] at h3
      simp [e0, r0]
      refine ⟨okD_lint, ⟨_, rfl⟩, ?_⟩
      simp [dI]
      refine lc_map negN ?_ ?_ ?_ ?_
      · simp [sizeLine]; omega
      · rcases p3 with rfl | ⟨d, rfl⟩ <;> simp [plainB]
      · intro d hd R hR
        obtain ⟨a, _, rfl⟩ := List.mem_map.mp hd
        simp [wipeR, unwipe]
        exact hR
      · rw [negN_all]
        have hs := hp.step r0
        refine ⟨_, rfl, ?_, hg2 _ ⟨(negP (restP x y)).length, by rw [negP_len]; exact rlt, pre ++ [x, y] ++ [negP (restP x y)], some (.dat (.lst ((restP x y).map .int))), x3, p3, ?_, .inr ⟨pre ++ [x], y, negP (restP x y), k, by simp, hs, ?_, by rw [negP_len]; omega, rfl⟩⟩⟩
        · have := (row_mb l0 hn hl.b hl.z).2
          rw [h3] at this
          simp at this
          simp
          omega
        · simp [oL, dI, oI_tI]
          try rfl
        · rw [h3]
          simp
theorem b_row_of {k : Nat} {C : Ctr} (G : FnG P w K mg base CX0 k f fd (["one"] : List Str) (spD K C)) (F : FunD K "row_of" "row_of" (defArgs s_row_of) (defBody s_row_of) (defScope s_row_of) [] [] f fd) (hm : mg "row_of" = some (.ref f)) : Hs P w K mg base "row_of" (["one"] : List Str) k C := by
  refine hsF G hm F ?_
  intro kV doc pm an cdv ct us hl
  match us, hl with
  | [u0], _ => rfl

theorem g_row (F : FunD K "row" "row" (defArgs s_row) (defBody s_row) (defScope s_row) [] [] f fd)  (h_row_of : Hs P w K mg base "row_of" ["one"] 4 cRow) (h_checked_some : Hs P w K mg base "checked_some" ["one"] 2 cChkS) :
    FnG P w K mg base CX0 (5) f fd (["one"] : List Str) (spD K cRow) := by
  have S : FnScope (["one"] : List Str) (["one"] : List Str) (defScope s_row) := ⟨rfl, rfl, rfl, by decide +kernel, rfl, by decide +kernel, by decide +kernel⟩
  have nd : (["one"] : List Str).Nodup := by decide +kernel
  refine okF (k := 4) [] F S (fun cdv A outer s H E hr => (ss_one (s_ret (e_call h_row_of (hr.mono (by omega)) (a_val (ve (ev (e_call h_checked_some (hr.mono (by omega)) (a_val (ve (n_v 0 (pv 0) rfl)) a_nil)))) a_nil))))) ?_ rfl ?_
  · rintro as Q ⟨l, rfl, _⟩; rfl
  · rintro as Q ⟨l, rfl, l0, hl, q⟩
    simp [cChkS, cRow]
    exact ⟨l0, hl.z, l0, hl, q⟩
theorem b_row {k : Nat} {C : Ctr} (G : FnG P w K mg base CX0 k f fd (["one"] : List Str) (spD K C)) (F : FunD K "row" "row" (defArgs s_row) (defBody s_row) (defScope s_row) [] [] f fd) (hm : mg "row" = some (.ref f)) : Hs P w K mg base "row" (["one"] : List Str) k C := by
  refine hsF G hm F ?_
  intro kV doc pm an cdv ct us hl
  match us, hl with
  | [u0], _ => rfl

theorem g_turns_of (F : FunD K "turns_of" "turns_of" (defArgs s_turns_of) (defBody s_turns_of) (defScope s_turns_of) [] [] f fd)  (h_end_sign : Hs P w K mg base "end_sign" ["one", "spot"] 3 cSign) (m_len : mg "len" = none) (m_range : mg "range" = none) :
    FnG P w K mg base CX0 (4) f fd (["told", "spot"] : List Str) (spD K cTurns) := by
  have S : FnScope (["told", "spot", "signs", "left", "one", "number", "rank"] : List Str) (["told", "spot"] : List Str) (defScope s_turns_of) := ⟨rfl, rfl, rfl, by decide +kernel, rfl, by decide +kernel, by decide +kernel⟩
  have nd : (["told", "spot", "signs", "left", "one", "number", "rank"] : List Str).Nodup := by decide +kernel
  refine okF (k := 3) [] F S (fun cdv A outer s H E hr => (ss_cons (s_lcS (i := 2) (own := [("one", 4)]) rfl nd (i_lt (n_v 0 (pv 0) rfl)) rfl (fun _ _ _ _ _ => (t_name (i := 4) nd)) (fun _ _ _ _ _ => ifs_nil) (fun _ _ _ _ _ => (e_call h_end_sign (hr.mono (by omega)) (a_val (ve (n_v 4 (pv 4) rfl)) (a_val (ve (n_v 1 (pv 1) rfl)) a_nil)))))
    (ss_cons (s_set (i := 3) nd (ve (ev (e_lc (own := [("number", 5)]) rfl nd (i_lt (n_v 2 (pv 2) rfl)) rfl (fun _ _ _ _ _ => (t_name (i := 5) nd)) (fun _ _ _ _ _ => (ifs_one (q_ne hr.r (n_o 5 (pv 5) rfl) (vo c_int)))) (fun _ _ _ _ _ => (ve (n_v 5 (pv 5) rfl)))))))
    (ss_one (s_ret (ve (p_len m_len (os_cons (vo (ev (e_lc (own := [("rank", 6)]) rfl nd (i_rg2 m_range (os_cons (vo c_int) (os_cons (vo (p_len m_len (os_cons (n_o 3 (pv 3) rfl) os_nil))) os_nil))) rfl (fun _ _ _ _ _ => (t_name (i := 6) nd)) (fun _ _ _ _ _ => (ifs_one (q_ne hr.r (vo (v_ix (n_o 3 (pv 3) rfl) (n_o 6 (pv 6) rfl))) (vo (v_ix (n_o 3 (pv 3) rfl) (vo (p_sub (n_o 6 (pv 6) rfl) (vo c_int)))))))) (fun _ _ _ _ _ => (ve (n_v 6 (pv 6) rfl)))))) os_nil)))))))) ?_ rfl ?_
  · rintro as Q ⟨p, x, rfl, _⟩; rfl
  · rintro as Q ⟨ps, sp, rfl, hn, hp, hx, q⟩
    refine cut (fun ρ => ρ = [some (.dat (dL ps)), some (.dat (dS sp)), some (.dat (dI (ps.map fun p => signE p sp))), none, none, none, none]) ?_ fun g hg => ?_
    rotate_left
    · simp [dL]
      refine lc_map (sgD sp) ?_ ?_ ?_ ?_
      · simp [sizeLine]; omega
      · simp [plainB]
      · intro d hd R hR
        obtain ⟨p, hm, rfl⟩ := List.mem_map.mp hd
        simp [wipeR, unwipe, cSign]
        exact ⟨sp, rfl, hp p hm, hx, by simpa [sgD] using hR⟩
      · rw [sgD_all]
        exact hg _ (by simp [dI, oI_tI, dL])
    rintro ρ rfl
    have lT : (ps.map fun p => signE p sp).length = ps.length := List.length_map _
    unfold turnsP at q
    generalize (ps.map fun p => signE p sp) = T at *
    refine cut (fun ρ => ρ = [some (.dat (dL ps)), some (.dat (dS sp)), some (.dat (dI T)), some (.dat (dI (nzI T))), none, none, none]) ?_ fun g hg => ?_
    rotate_left
    · simp [dI]
      refine lc_filt nzD SV.dat ?_ ?_ ?_ ?_
      · simp [sizeLine]; omega
      · simp [plainB]
      · intro d hd R S h1 h2
        obtain ⟨a, _, rfl⟩ := List.mem_map.mp hd
        simp [wipeR, unwipe]
        by_cases a0 : a = 0
        · exact .inl ⟨a0, h2 (by simp [nzD, a0])⟩
        · exact .inr ⟨a0, h1 (by simp [nzD, a0])⟩
      · rw [nzD_all]
        exact hg _ (by simp [dI, oI_tI])
    rintro ρ rfl
    have sl : (nzI T).length ≤ ps.length := by
      have := List.length_filter_le (fun i : Int => decide (i ≠ 0)) T
      have e : (nzI T).length ≤ T.length := this
      omega
    generalize nzI T = s at *
    simp [dI]
    refine ⟨by omega, lc_inv (fun i acc ρ => ρ = [some (.dat (dL ps)), some (.dat (dS sp)), some (.dat (.lst (T.map .int))), some (.dat (.lst (s.map .int))), none, none, none] ∧ acc.length = tk s (i + 1)) ⟨rfl, (tk_one s).symm⟩ ?_ ?_⟩
    · rintro i d acc ρ hd ⟨rfl, ha⟩
      obtain ⟨rfl, hi⟩ := rg1_get hd
      have tl := tk_le s (i + 1)
      have e1 := ints_at (s := s) (k := i + 1) (by omega)
      have e2 := ints_at (s := s) (k := i) (by omega)
      have es := tk_succ s (i + 1)
      have c : ((i + 1 : Nat) : Int) - 1 = (i : Int) := by omega
      have c1 : ((i + 1 : Nat) : Int) = (i : Int) + 1 := by omega
      rw [c1] at e1
      refine ⟨by simp [plainB], ?_⟩
      simp [wipeR, unwipe, e1]
      refine ⟨_, e2, okD_int, ?_⟩
      rw [← List.getD_eq_getElem?_getD, eqD_int]
      rw [show i + 1 - 1 = i by omega] at es
      by_cases h : s.getD (i + 1) 0 = s.getD i 0
      · rw [if_neg (fun z => z.2 h)] at es
        exact .inl ⟨decide_eq_true h, by omega⟩
      · rw [if_pos ⟨by omega, h⟩] at es
        exact .inr ⟨decide_eq_false h, by omega, by omega⟩
    · rintro acc ρ ⟨rfl, ha⟩
      rw [show (rgD 1 1 (s.length - 1)).length = s.length - 1 by simp [rgD], tk_end] at ha
      refine .inl ⟨SV.datas acc, .inl rfl, ?_⟩
      rw [own_len, ha]
      exact q
theorem b_turns_of {k : Nat} {C : Ctr} (G : FnG P w K mg base CX0 k f fd (["told", "spot"] : List Str) (spD K C)) (F : FunD K "turns_of" "turns_of" (defArgs s_turns_of) (defBody s_turns_of) (defScope s_turns_of) [] [] f fd) (hm : mg "turns_of" = some (.ref f)) : Hs P w K mg base "turns_of" (["told", "spot"] : List Str) k C := by
  refine hsF G hm F ?_
  intro kV doc pm an cdv ct us hl
  match us, hl with
  | [u0, u1], _ => rfl

theorem g_turns (F : FunD K "turns" "turns" (defArgs s_turns) (defBody s_turns) (defScope s_turns) [] [] f fd)  (h_checked : Hs P w K mg base "checked" ["one"] 1 cChk) (h_check_fraction : Hs P w K mg base "check_fraction" ["told"] 3 cChkF) (h_turns_of : Hs P w K mg base "turns_of" ["told", "spot"] 4 cTurns) :
    FnG P w K mg base CX0 (5) f fd (["told", "spot"] : List Str) (spD K cTurns) := by
  have S : FnScope (["told", "spot", "one"] : List Str) (["told", "spot"] : List Str) (defScope s_turns) := ⟨rfl, rfl, rfl, by decide +kernel, rfl, by decide +kernel, by decide +kernel⟩
  have nd : (["told", "spot", "one"] : List Str).Nodup := by decide +kernel
  refine okF (k := 4) [] F S (fun cdv A outer s H E hr => (ss_cons (s_for PassesOwn.never rfl (i_lt (n_v 0 (pv 0) rfl)) (t_name (i := 2) nd) (ss_one (s_expr (e_call h_checked (hr.mono (by omega)) (a_val (ve (n_v 2 (pv 2) rfl)) a_nil)))))
    (ss_cons (s_if (q_notN (n_o 1 (pv 1) rfl) (vo c_non)) (ss_one (s_expr (e_call h_check_fraction (hr.mono (by omega)) (a_val (ve (n_v 1 (pv 1) rfl)) a_nil)))) ss_nil)
    (ss_one (s_ret (e_call h_turns_of (hr.mono (by omega)) (a_val (ve (n_v 0 (pv 0) rfl)) (a_val (ve (n_v 1 (pv 1) rfl)) a_nil)))))))) ?_ rfl ?_
  · rintro as Q ⟨p, x, rfl, _⟩; rfl
  · rintro as Q ⟨ps, sp, rfl, hn, hp, hx, q⟩
    refine cut (fun ρ => ∃ x2 : Option SV, ρ = [some (.dat (dL ps)), some (.dat (dS sp)), x2]) ?_ fun g hg => ?_
    rotate_left
    · simp [cChk, dL]
      refine for_inv (fun i ρ => ∃ x2 : Option SV, ρ = [some (.dat (.lst (ps.map dI))), some (.dat (dS sp)), x2]) ⟨none, rfl⟩ ?_ ?_
      · rintro i d ρ hd ⟨x2, rfl⟩
        obtain ⟨p, hm, rfl⟩ := List.mem_map.mp (List.mem_of_getElem? hd)
        simp [cChk]
        exact (hp p hm).z
      · rintro ρ ⟨x2, rfl⟩
        exact hg _ ⟨x2, rfl⟩
    rintro ρ ⟨x2, rfl⟩
    cases sp with
    | none =>
      simp [dS, isN, tld, cChkF, cTurns]
      exact ⟨ps, rfl, none, rfl, hn, hp, hx, q⟩
    | some x =>
      simp [dS, cChkF, cTurns]
      exact ⟨ps, rfl, some x, rfl, hn, hp, hx, q⟩
theorem b_turns {k : Nat} {C : Ctr} (G : FnG P w K mg base CX0 k f fd (["told", "spot"] : List Str) (spD K C)) (F : FunD K "turns" "turns" (defArgs s_turns) (defBody s_turns) (defScope s_turns) [] [] f fd) (hm : mg "turns" = some (.ref f)) : Hs P w K mg base "turns" (["told", "spot"] : List Str) k C := by
  refine hsF G hm F ?_
  intro kV doc pm an cdv ct us hl
  match us, hl with
  | [u0, u1], _ => rfl

theorem g__law_pv_mark (F : FunD K "_law_pv_mark" "_law_pv_mark" (defArgs s__law_pv_mark) (defBody s__law_pv_mark) (defScope s__law_pv_mark) [] [] f fd)  (h__law_pv_at : Hs P w K mg base "_law_pv_at" ["poly", "ratio"] 4 cAt) (m_int : mg "int" = none) :
    FnG P w K mg base CX0 (5) f fd (["poly", "end"] : List Str) (spD K cSign) := by
  have S : FnScope (["poly", "end", "some", "piece"] : List Str) (["poly", "end"] : List Str) (defScope s__law_pv_mark) := ⟨rfl, rfl, rfl, by decide +kernel, rfl, by decide +kernel, by decide +kernel⟩
  have nd : (["poly", "end", "some", "piece"] : List Str).Nodup := by decide +kernel
  refine okF (k := 4) [] F S (fun cdv A outer s H E hr => (ss_cons (s_lcS (i := 2) (own := [("piece", 3)]) rfl nd (i_lt (n_v 0 (pv 0) rfl)) rfl (fun _ _ _ _ _ => (t_name (i := 3) nd)) (fun _ _ _ _ _ => (ifs_one (q_ne hr.r (n_o 3 (pv 3) rfl) (vo c_int)))) (fun _ _ _ _ _ => (ve (n_v 3 (pv 3) rfl))))
    (ss_cons (s_if (q_eq hr.r (n_o 2 (pv 2) rfl) (vo (ev (e_lst g_nil)))) (ss_one (s_ret (ve c_int))) ss_nil)
    (ss_cons (s_set (i := 3) nd (ve (v_ix (n_o 2 (pv 2) rfl) (vo (p_neg (vo c_int))))))
    (ss_cons (s_if (q_eq hr.r (n_o 1 (pv 1) rfl) (vo (v_tup (g_cons (ve c_int) (g_cons (ve c_int) g_nil))))) (ss_one (s_set (i := 3) nd (ve (v_ix (n_o 2 (pv 2) rfl) (vo c_int))))) (ss_one (s_if (q_notN (n_o 1 (pv 1) rfl) (vo c_non)) (ss_one (s_set (i := 3) nd (ve (v_ix (vo (ev (e_call h__law_pv_at (hr.mono (by omega)) (a_val (ve (n_v 0 (pv 0) rfl)) (a_val (ve (n_v 1 (pv 1) rfl)) a_nil))))) (vo c_int))))) ss_nil)))
    (ss_one (s_ret (ve (p_sub (vo (p_int m_int (os_cons (vo (p_gt (n_o 3 (pv 3) rfl) (vo c_int))) os_nil))) (vo (p_int m_int (os_cons (vo (p_lt (n_o 3 (pv 3) rfl) (vo c_int))) os_nil)))))))))))) ?_ rfl ?_
  · rintro as Q ⟨p, x, rfl, _⟩; rfl
  · rintro as Q ⟨p, sp, rfl, hp, hx, q⟩
    refine cut (fun ρ => ρ = [some (.dat (dI p)), some (.dat (dS sp)), some (.dat (dI (nzI p))), none]) ?_ fun g hg => ?_
    rotate_left
    · simp [dI]
      refine lc_filt nzD SV.dat ?_ ?_ ?_ ?_
      · have := hp.n; simp [sizeLine]; omega
      · simp [plainB]
      · intro d hd R S h1 h2
        obtain ⟨a, _, rfl⟩ := List.mem_map.mp hd
        simp [wipeR, unwipe]
        by_cases a0 : a = 0
        · exact .inl ⟨a0, h2 (by simp [nzD, a0])⟩
        · exact .inr ⟨a0, h1 (by simp [nzD, a0])⟩
      · rw [nzD_all]
        exact hg _ (by simp [dI, oI_tI])
    rintro ρ rfl
    have e0 : eqD (dI (nzI p)) (.lst []) = decide (p = []) := by
      rw [show eqD (dI (nzI p)) (.lst []) = decide (nzI p = []) by simp [dI]]
      by_cases h : p = []
      · simp [h, nzI]
      · have : nzI p ≠ [] := fun e => h ((nz_nil hp.z).mp e)
        simp [h, this]
    by_cases p0 : p = []
    · subst p0
      have z : signE [] sp = 0 := by
        cases sp with
        | none => rfl
        | some x => show (if x = 0 then sgnI (fnz []) else sgnI (evalR [] x).num) = 0; split <;> rfl
      rw [z] at q
      simp [e0]
      exact ⟨okD_nil, q⟩
    have n0 : nzI p ≠ [] := fun e => p0 ((nz_nil hp.z).mp e)
    have eL : atI ((nzI p).map DD.int) (-1) = some (.int (lastI p)) := by
      rw [atI_mapI, atI_end, nz_last hp.z, last_getD, if_neg p0]
      rfl
    have eF : atI ((nzI p).map DD.int) 0 = some (.int (fnz p)) := by
      obtain ⟨b, r, er⟩ := List.exists_cons_of_ne_nil n0
      unfold fnz
      rw [er]
      simp
    refine cut (fun ρ => ρ = [some (.dat (dI p)), some (.dat (dS sp)), some (.dat (dI (nzI p))), none]) ?_ fun g hg => ?_
    rotate_left
    · simp [e0, p0]
      exact ⟨okD_lint, hg _ rfl⟩
    rintro ρ rfl
    refine cut (fun ρ => ρ = [some (.dat (dI p)), some (.dat (dS sp)), some (.dat (dI (nzI p))), some (.dat (.int (lastI p)))]) ?_ fun g2 hg2 => ?_
    rotate_left
    · simp [dI, eL]
      exact hg2 _ (by simp [dI])
    rintro ρ rfl
    refine cut (fun ρ => ∃ i : Int, sgnI i = signE p sp ∧ ρ = [some (.dat (dI p)), some (.dat (dS sp)), some (.dat (dI (nzI p))), some (.dat (.int i))]) ?_ fun g hg => ?_
    · rintro ρ ⟨i, e, rfl⟩
      rw [← e] at q
      unfold sgnI at q
      simp
      rcases Int.lt_trichotomy i 0 with h | h | h
      · rw [if_neg (by omega), if_pos h] at q
        exact .inl ⟨by omega, .inr ⟨h, q⟩⟩
      · subst h
        exact .inl ⟨by omega, .inl ⟨by omega, q⟩⟩
      · rw [if_pos h] at q
        exact .inr ⟨h, .inl ⟨by omega, q⟩⟩
    cases sp with
    | none =>
      simp [dS, isN, tld]
      rw [if_neg (by rw [show eqD DD.non (DD.tup [DD.int 0, DD.int 1]) = false from rfl]; simp)]
      exact hg _ ⟨lastI p, rfl, rfl⟩
    | some x =>
      have e1 : signE p (some x) = if x = 0 then sgnI (fnz p) else sgnI (evalR p x).num := rfl
      simp [dS, eqD_r0, cAt]
      refine ⟨okD_rT x, ?_⟩
      by_cases x0 : x = 0
      · rw [if_pos x0] at e1 ⊢
        simp [dI, eF]
        exact hg _ ⟨fnz p, e1.symm, by simp [dS, dI]⟩
      · rw [if_neg x0] at e1 ⊢
        have n8 := hp.n
        have te := tb_ev hp.n
        refine ⟨_, hp.b, _, hx x rfl, te, by omega, ?_⟩
        simp [rT]
        exact hg _ ⟨(evalR p x).num, e1.symm, by simp [dS, rT]⟩
theorem b__law_pv_mark {k : Nat} {C : Ctr} (G : FnG P w K mg base CX0 k f fd (["poly", "end"] : List Str) (spD K C)) (F : FunD K "_law_pv_mark" "_law_pv_mark" (defArgs s__law_pv_mark) (defBody s__law_pv_mark) (defScope s__law_pv_mark) [] [] f fd) (hm : mg "_law_pv_mark" = some (.ref f)) : Hs P w K mg base "_law_pv_mark" (["poly", "end"] : List Str) k C := by
  refine hsF G hm F ?_
  intro kV doc pm an cdv ct us hl
  match us, hl with
  | [u0, u1], _ => rfl

theorem g__law_pv_flips (F : FunD K "_law_pv_flips" "_law_pv_flips" (defArgs s__law_pv_flips) (defBody s__law_pv_flips) (defScope s__law_pv_flips) [] [] f fd)  (h__law_pv_mark : Hs P w K mg base "_law_pv_mark" ["poly", "end"] 5 cSign) (m_len : mg "len" = none) (m_range : mg "range" = none) :
    FnG P w K mg base CX0 (6) f fd (["chain", "end"] : List Str) (spD K cTurns) := by
  have S : FnScope (["chain", "end", "marks", "poly", "piece", "k"] : List Str) (["chain", "end"] : List Str) (defScope s__law_pv_flips) := ⟨rfl, rfl, rfl, by decide +kernel, rfl, by decide +kernel, by decide +kernel⟩
  have nd : (["chain", "end", "marks", "poly", "piece", "k"] : List Str).Nodup := by decide +kernel
  refine okF (k := 5) [] F S (fun cdv A outer s H E hr => (ss_cons (s_set (i := 2) nd (ve (ev (e_lc (own := [("poly", 3)]) rfl nd (i_lt (n_v 0 (pv 0) rfl)) rfl (fun _ _ _ _ _ => (t_name (i := 3) nd)) (fun _ _ _ _ _ => ifs_nil) (fun _ _ _ _ _ => (e_call h__law_pv_mark (hr.mono (by omega)) (a_val (ve (n_v 3 (pv 3) rfl)) (a_val (ve (n_v 1 (pv 1) rfl)) a_nil))))))))
    (ss_cons (s_set (i := 2) nd (ve (ev (e_lc (own := [("piece", 4)]) rfl nd (i_lt (n_v 2 (pv 2) rfl)) rfl (fun _ _ _ _ _ => (t_name (i := 4) nd)) (fun _ _ _ _ _ => (ifs_one (q_ne hr.r (n_o 4 (pv 4) rfl) (vo c_int)))) (fun _ _ _ _ _ => (ve (n_v 4 (pv 4) rfl)))))))
    (ss_one (s_ret (ve (p_len m_len (os_cons (vo (ev (e_lc (own := [("k", 5)]) rfl nd (i_rg1 m_range (os_cons (vo (p_len m_len (os_cons (n_o 2 (pv 2) rfl) os_nil))) os_nil)) rfl (fun _ _ _ _ _ => (t_name (i := 5) nd)) (fun _ _ _ _ _ => (ifs_one (t_w (w_and (q_gt (n_o 5 (pv 5) rfl) (vo c_int)) (w_and1 (q_ne hr.r (vo (v_ix (n_o 2 (pv 2) rfl) (n_o 5 (pv 5) rfl))) (vo (v_ix (n_o 2 (pv 2) rfl) (vo (p_sub (n_o 5 (pv 5) rfl) (vo c_int))))))))))) (fun _ _ _ _ _ => (ve (n_v 5 (pv 5) rfl)))))) os_nil)))))))) ?_ rfl ?_
  · rintro as Q ⟨p, x, rfl, _⟩; rfl
  · rintro as Q ⟨ps, sp, rfl, hn, hp, hx, q⟩
    refine cut (fun ρ => ρ = [some (.dat (dL ps)), some (.dat (dS sp)), some (.dat (dI (ps.map fun p => signE p sp))), none, none, none]) ?_ fun g hg => ?_
    rotate_left
    · simp [dL]
      refine lc_map (sgD sp) ?_ ?_ ?_ ?_
      · simp [sizeLine]; omega
      · simp [plainB]
      · intro d hd R hR
        obtain ⟨p, hm, rfl⟩ := List.mem_map.mp hd
        simp [wipeR, unwipe, cSign]
        exact ⟨sp, rfl, hp p hm, hx, by simpa [sgD] using hR⟩
      · rw [sgD_all]
        exact hg _ (by simp [dI, oI_tI, dL])
    rintro ρ rfl
    have lT : (ps.map fun p => signE p sp).length = ps.length := List.length_map _
    unfold turnsP at q
    generalize (ps.map fun p => signE p sp) = T at *
    refine cut (fun ρ => ρ = [some (.dat (dL ps)), some (.dat (dS sp)), some (.dat (dI (nzI T))), none, none, none]) ?_ fun g hg => ?_
    rotate_left
    · simp [dI]
      refine lc_filt nzD SV.dat ?_ ?_ ?_ ?_
      · simp [sizeLine]; omega
      · simp [plainB]
      · intro d hd R S h1 h2
        obtain ⟨a, _, rfl⟩ := List.mem_map.mp hd
        simp [wipeR, unwipe]
        by_cases a0 : a = 0
        · exact .inl ⟨a0, h2 (by simp [nzD, a0])⟩
        · exact .inr ⟨a0, h1 (by simp [nzD, a0])⟩
      · rw [nzD_all]
        exact hg _ (by simp [dI, oI_tI])
    rintro ρ rfl
    have sl : (nzI T).length ≤ ps.length := by
      have := List.length_filter_le (fun i : Int => decide (i ≠ 0)) T
      have e : (nzI T).length ≤ T.length := this
      omega
    generalize nzI T = s at *
    simp [dI]
    refine ⟨by omega, lc_inv (fun i acc ρ => ρ = [some (.dat (dL ps)), some (.dat (dS sp)), some (.dat (.lst (s.map .int))), none, none, none] ∧ acc.length = tk s i) ⟨rfl, rfl⟩ ?_ ?_⟩
    · rintro i d acc ρ hd ⟨rfl, ha⟩
      obtain ⟨rfl, hi⟩ := rg_get hd
      have tl := tk_le s i
      have e1 := ints_at (s := s) (k := i) (by omega)
      have es := tk_succ s i
      refine ⟨by simp [plainB], ?_⟩
      simp [wipeR, unwipe, e1]
      by_cases i0 : i = 0
      · subst i0
        rw [if_neg (fun z => absurd z.1 (by omega))] at es
        exact .inl ⟨rfl, by omega⟩
      · have e2 := ints_at (s := s) (k := i - 1) (by omega)
        have c : ((i - 1 : Nat) : Int) = (i : Int) - 1 := by omega
        rw [c] at e2
        refine .inr ⟨by omega, _, e2, okD_int, ?_⟩
        rw [← List.getD_eq_getElem?_getD, eqD_int]
        by_cases h : s.getD i 0 = s.getD (i - 1) 0
        · rw [if_neg (fun z => z.2 h)] at es
          exact .inl ⟨decide_eq_true h, by omega⟩
        · rw [if_pos ⟨by omega, h⟩] at es
          exact .inr ⟨decide_eq_false h, by omega, by omega⟩
    · rintro acc ρ ⟨rfl, ha⟩
      rw [show (rgD 0 1 s.length).length = s.length by simp [rgD]] at ha
      refine .inl ⟨SV.datas acc, .inl rfl, ?_⟩
      rw [own_len, ha]
      exact q
theorem b__law_pv_flips {k : Nat} {C : Ctr} (G : FnG P w K mg base CX0 k f fd (["chain", "end"] : List Str) (spD K C)) (F : FunD K "_law_pv_flips" "_law_pv_flips" (defArgs s__law_pv_flips) (defBody s__law_pv_flips) (defScope s__law_pv_flips) [] [] f fd) (hm : mg "_law_pv_flips" = some (.ref f)) : Hs P w K mg base "_law_pv_flips" (["chain", "end"] : List Str) k C := by
  refine hsF G hm F ?_
  intro kV doc pm an cdv ct us hl
  match us, hl with
  | [u0, u1], _ => rfl

theorem g__law_pv_chain (F : FunD K "_law_pv_chain" "_law_pv_chain" (defArgs s__law_pv_chain) (defBody s__law_pv_chain) (defScope s__law_pv_chain) [] [] f fd)  (h__law_pv_slope : Hs P w K mg base "_law_pv_slope" ["poly"] 1 cSlope) (h__law_pv_left : Hs P w K mg base "_law_pv_left" ["poly", "by"] 4 cLeft) (m_list : mg "list" = none) (m_len : mg "len" = none) (m_range : mg "range" = none) :
    FnG P w K mg base CX0 (5) f fd (["poly"] : List Str) (spD K cRow) := by
  have S : FnScope (["poly", "found", "turn", "piece", "part"] : List Str) (["poly"] : List Str) (defScope s__law_pv_chain) := ⟨rfl, rfl, rfl, by decide +kernel, rfl, by decide +kernel, by decide +kernel⟩
  have nd : (["poly", "found", "turn", "piece", "part"] : List Str).Nodup := by decide +kernel
  refine okF (k := 4) [] F S (fun cdv A outer s H E hr => (ss_cons (s_set (i := 1) nd (e_lst (g_cons (e_list m_list (n_o 0 (pv 0) rfl)) g_nil)))
    (ss_cons (s_if (q_gt (vo (p_len m_len (os_cons (n_o 0 (pv 0) rfl) os_nil))) (vo c_int)) (ss_one (s_expr (e_app 1 (pv 1) rfl (e_call h__law_pv_slope (hr.mono (by omega)) (a_val (ve (n_v 0 (pv 0) rfl)) a_nil)) rfl (fun t h => pe_bm PySem.F.plainAttrs_list PySem.F.slot_list_append PySem.F.type_list_append mt_append (pv 1) h)))) ss_nil)
    (ss_cons (s_for PassesOwn.never rfl (i_rg1 m_range (os_cons (vo c_int) os_nil)) (t_name (i := 2) nd) (ss_one (s_if (t_w (w_and (q_gt (vo (p_len m_len (os_cons (n_o 1 (pv 1) rfl) os_nil))) (vo c_int)) (w_and1 (q_gt (vo (ev (e_frz (ve (p_len m_len (os_cons (vo (v_ix (n_o 1 (pv 1) rfl) (vo (p_neg (vo c_int))))) os_nil)))))) (vo c_int))))) (ss_cons (s_set (i := 3) nd (ve (ev (e_frz (e_call h__law_pv_left (hr.mono (by omega)) (a_val (ve (v_ix (n_o 1 (pv 1) rfl) (vo (p_neg (vo c_int))))) (a_val (ve (v_ix (n_o 1 (pv 1) rfl) (vo (p_neg (vo c_int))))) a_nil)))))))
    (ss_cons (s_if (q_eq hr.r (n_o 3 (pv 3) rfl) (vo (ev (e_lst g_nil)))) (ss_one (s_ret (n_mv 1 (pv 1) rfl))) ss_nil)
    (ss_one (s_expr (e_app 1 (pv 1) rfl (e_lc (own := [("part", 4)]) rfl nd (i_lt (n_v 3 (pv 3) rfl)) rfl (fun _ _ _ _ _ => (t_name (i := 4) nd)) (fun _ _ _ _ _ => ifs_nil) (fun _ _ _ _ _ => (ve (p_sub (vo c_int) (n_o 4 (pv 4) rfl))))) rfl (fun t h => pe_bm PySem.F.plainAttrs_list PySem.F.slot_list_append PySem.F.type_list_append mt_append (pv 1) h)))))) ss_nil)))
    (ss_one (s_ret (n_mv 1 (pv 1) rfl))))))) ?_ rfl ?_
  · rintro as Q ⟨l, rfl, _⟩; rfl
  · rintro as Q ⟨l, rfl, l0, hl, q⟩
    have hn := hl.n
    refine cut (fun ρ => ρ = [some (.dat (dI l)), some (oL [l]), none, none, none]) ?_ fun g hg => ?_
    rotate_left
    · simp [dI]
      exact hg _ (by simp [oL, oI, dI, Function.comp_def])
    rintro ρ rfl
    refine cut (fun ρ => ∃ acc : List (List Int), ρ = [some (.dat (dI l)), some (oL acc), none, none, none] ∧ (acc = rowOf l ∧ acc.length ≤ 1 ∨ acc = [l, slopeP l] ∧ 1 < l.length)) ?_ fun g hg => ?_
    rotate_left
    · simp [dI, cSlope]
      rcases Nat.lt_or_ge 1 l.length with h | h
      · refine .inr ⟨by omega, ⟨_, rfl⟩, by omega, hl.b.sm (k := 8000) (Nat.lt_of_lt_of_le (show 1000000 < 2 ^ 20 by decide) (Nat.pow_le_pow_right (by decide) (by decide))), _, rfl, by simp, hg _ ⟨[l, slopeP l], rfl, .inr ⟨rfl, h⟩⟩⟩
      · refine .inl ⟨by omega, hg _ ⟨[l], rfl, .inl ⟨?_, by simp⟩⟩⟩
        unfold rowOf
        rw [if_neg (by omega)]
    rintro ρ ⟨acc, rfl, hacc⟩
    have done : ∀ x2 x3 x4 : Option SV, Q (oL (rowOf l)) [.dat (dI l)] := fun _ _ _ => q
    refine cut (fun ρ => ∃ x2 x3 x4 : Option SV, ρ = [some (.dat (dI l)), some (oL (rowOf l)), x2, x3, x4]) ?_ fun g hg => ?_
    · rintro ρ ⟨x2, x3, x4, rfl⟩
      simpa using q
    simp
    refine for_inv (fun i ρ => ∃ (acc : List (List Int)) (x2 x3 x4 : Option SV), (x4 = none ∨ ∃ d, x4 = some (.dat d)) ∧ ρ = [some (.dat (dI l)), some (oL acc), x2, x3, x4] ∧ (acc = rowOf l ∧ acc.length ≤ 1 ∨ ∃ pre x y n, acc = pre ++ [x, y] ∧ Pr x y ∧ rowOf l = acc ++ chainT n x y ∧ y.length ≤ n ∧ (y.length ≤ 1 ∨ y.length + i ≤ 8)))
      ?_ ?_ ?_
    · rcases hacc with ⟨h1, h2⟩ | ⟨rfl, h2⟩
      · exact ⟨acc, none, none, none, .inl rfl, rfl, .inl ⟨h1, h2⟩⟩
      · refine ⟨_, none, none, none, .inl rfl, rfl, .inr ⟨[], l, slopeP l, l.length, rfl, Pr.start h2 hn hl.b hl.z, ?_, by rw [slope_len]; omega, by rw [slope_len]; omega⟩⟩
        unfold rowOf
        rw [if_pos h2]
        rfl
    · rintro i d ρ hd ⟨acc, x2, x3, x4, p4, rfl, h⟩
      obtain ⟨rfl, hi⟩ := rg_get hd
      refine ⟨by simp, halt fun g2 hg2 => ?_⟩
      rcases h with ⟨h1, h2⟩ | ⟨pre, x, y, n, rfl, hp, h3, h4, h5⟩
      · simp [oL_data, dL]
        exact .inl ⟨by omega, hg2 _ ⟨acc, _, x3, x4, p4, rfl, .inl ⟨h1, h2⟩⟩⟩
      · obtain ⟨z1, z2, z3⟩ := hp.sz
        have n8 := hp.n
        have nlt := hp.lt
        have rlt := restP_lt (l := x) hp.y0
        have yp := List.length_pos_iff.mpr hp.y0
        have big : 2 ≤ (pre ++ [x, y]).length := by simp
        refine if_go (decide (1 < y.length)) (fun Q2 h => by
          simp [oL_data, dL]
          refine .inr ⟨by omega, _, atI_one2 _ _ _, .inl ⟨y.map .int, .inl rfl, ?_⟩⟩
          simp
          rcases Nat.lt_or_ge 1 y.length with w | w
          · rw [decide_eq_true w] at h; exact ⟨rfl, .inr ⟨by omega, h⟩⟩
          · rw [decide_eq_false (by omega)] at h; exact ⟨rfl, .inl ⟨by omega, h⟩⟩) ?_
        rcases Nat.lt_or_ge 1 y.length with w | w
        · rw [if_pos (by simpa using w)]
          refine cut (fun ρ => ρ = [some (.dat (dI l)), some (oL (pre ++ [x, y])), some (.dat (.int i)), some (.dat (dI (restP x y))), x4]) ?_ fun g3 hg3 => ?_
          rotate_left
          · simp [oL_data, dL, cLeft, cRestOf]
            refine ⟨_, atI_two _ _ _, _, atI_one2 _ _ _, x, rfl, y, rfl, by omega, by omega, hp.zx, hp.y0, hp.zy, _, hp.bx, _, hp.cy, z1, z2, z3, ?_⟩
            rw [oI_data]
            exact hg3 _ rfl
          rintro ρ rfl
          have e0 : eqD (dI (restP x y)) (.lst []) = decide (restP x y = []) := by simp [dI]
          obtain ⟨k, rfl⟩ : ∃ k, n = k + 1 := ⟨n - 1, by omega⟩
          rw [chainT] at h3
          by_cases r0 : restP x y = []
          · rw [if_pos r0] at h3
            simp [e0, r0]
            refine ⟨okD_nil, ?_⟩
            rw [h3, List.append_nil] at q
            exact q
          · rw [if_neg r0] at h3
            simp [e0, r0]
            refine ⟨okD_lint, ⟨_, rfl⟩, ?_⟩
            simp [dI]
            refine lc_map negZ ?_ ?_ ?_ ?_
            · simp [sizeLine]; omega
            · rcases p4 with rfl | ⟨d, rfl⟩ <;> simp [plainB]
            · intro d hd R hR
              obtain ⟨a, _, rfl⟩ := List.mem_map.mp hd
              simp [wipeR, unwipe]
              simpa [negZ] using hR
            · rw [negZ_all]
              have hs := hp.step r0
              refine ⟨_, rfl, ?_, hg2 _ ⟨pre ++ [x, y] ++ [negP (restP x y)], some (.dat (.int i)), some (.dat (.lst ((restP x y).map .int))), x4, p4, ?_, .inr ⟨pre ++ [x], y, negP (restP x y), k, by simp, hs, ?_, by rw [negP_len]; omega, by rw [negP_len]; omega⟩⟩⟩
              · have := (row_mb l0 hn hl.b hl.z).2
                rw [h3] at this
                simp at this
                simp
                omega
              · simp [oL, dI, oI_tI]
                try rfl
              · rw [h3]
                simp
        · rw [if_neg (by simpa using w)]
          exact hg2 _ ⟨_, _, x3, x4, p4, rfl, .inr ⟨pre, x, y, n, rfl, hp, h3, h4, .inl w⟩⟩
    · rintro ρ ⟨acc, x2, x3, x4, p4, rfl, h⟩
      rcases h with ⟨h1, h2⟩ | ⟨pre, x, y, n, h1, hp, h3, h4, h5⟩
      · exact hg _ ⟨_, _, _, by rw [h1]⟩
      · have yl : y.length ≤ 1 := by
          rcases h5 with h5 | h5
          · exact h5
          · simp [rgD] at h5
        rw [chain_stop hp.y0 yl, List.append_nil] at h3
        exact hg _ ⟨_, _, _, by rw [h3]⟩
theorem b__law_pv_chain {k : Nat} {C : Ctr} (G : FnG P w K mg base CX0 k f fd (["poly"] : List Str) (spD K C)) (F : FunD K "_law_pv_chain" "_law_pv_chain" (defArgs s__law_pv_chain) (defBody s__law_pv_chain) (defScope s__law_pv_chain) [] [] f fd) (hm : mg "_law_pv_chain" = some (.ref f)) : Hs P w K mg base "_law_pv_chain" (["poly"] : List Str) k C := by
  refine hsF G hm F ?_
  intro kV doc pm an cdv ct us hl
  match us, hl with
  | [u0], _ => rfl

theorem g__law_pv_power (F : FunD K "_law_pv_power" "_law_pv_power" (defArgs s__law_pv_power) (defBody s__law_pv_power) (defScope s__law_pv_power) [] [] f fd)  (m_range : mg "range" = none) :
    FnG P w K mg base CX0 (1) f fd (["base", "many"] : List Str) (spD K cPow) := by
  have S : FnScope (["base", "many", "found", "turn"] : List Str) (["base", "many"] : List Str) (defScope s__law_pv_power) := ⟨rfl, rfl, rfl, by decide +kernel, rfl, by decide +kernel, by decide +kernel⟩
  have nd : (["base", "many", "found", "turn"] : List Str).Nodup := by decide +kernel
  refine okF (k := 0) [] F S (fun cdv A outer s H E hr => (ss_cons (s_set (i := 2) nd (ve c_int))
    (ss_cons (s_for PassesOwn.never rfl (i_rg1 m_range (os_cons (n_o 1 (pv 1) rfl) os_nil)) (t_name (i := 3) nd) (ss_one (s_set (i := 2) nd (ve (p_mul (n_o 2 (pv 2) rfl) (n_o 0 (pv 0) rfl))))))
    (ss_one (s_ret (ve (n_v 2 (pv 2) rfl))))))) ?_ rfl ?_
  · rintro as Q ⟨b, m, rfl, _⟩; rfl
  · rintro as Q ⟨b, m, rfl, hm, hb, q⟩
    simp
    refine ⟨by omega, for_inv (fun i ρ => ∃ (v : Int) (x3 : Option SV), Sm (100 * i + 1) v ∧ ρ = [some (.dat (.int b)), some (.dat (.int m)), some (.dat (.int v)), x3]) ⟨1, none, smc, rfl⟩ ?_ ?_⟩
    · rintro i d ρ hd ⟨v, x3, hv, rfl⟩
      obtain ⟨rfl, hi⟩ := rg_get hd
      simp
      exact ⟨hv.ok hb (by omega), (hv.mul hb).mono (by omega)⟩
    · rintro ρ ⟨v, x3, hv, rfl⟩
      simp
      exact q v
theorem b__law_pv_power {k : Nat} {C : Ctr} (G : FnG P w K mg base CX0 k f fd (["base", "many"] : List Str) (spD K C)) (F : FunD K "_law_pv_power" "_law_pv_power" (defArgs s__law_pv_power) (defBody s__law_pv_power) (defScope s__law_pv_power) [] [] f fd) (hm : mg "_law_pv_power" = some (.ref f)) : Hs P w K mg base "_law_pv_power" (["base", "many"] : List Str) k C := by
  refine hsF G hm F ?_
  intro kV doc pm an cdv ct us hl
  match us, hl with
  | [u0, u1], _ => rfl

theorem g__law_pv_whole_root (F : FunD K "_law_pv_whole_root" "_law_pv_whole_root" (defArgs s__law_pv_whole_root) (defBody s__law_pv_whole_root) (defScope s__law_pv_whole_root) [] [] f fd)  (h__law_pv_power : Hs P w K mg base "_law_pv_power" ["base", "many"] 1 cPow) (m_range : mg "range" = none) :
    FnG P w K mg base CX0 (2) f fd (["base", "many"] : List Str) (spD K cWRoot) := by
  have S : FnScope (["base", "many", "k"] : List Str) (["base", "many"] : List Str) (defScope s__law_pv_whole_root) := ⟨rfl, rfl, rfl, by decide +kernel, rfl, by decide +kernel, by decide +kernel⟩
  have nd : (["base", "many", "k"] : List Str).Nodup := by decide +kernel
  refine okF (k := 1) [] F S (fun cdv A outer s H E hr => (ss_cons (s_for PassesOwn.never rfl (i_rg2 m_range (os_cons (vo c_int) (os_cons (vo c_int) os_nil))) (t_name (i := 2) nd) (ss_one (s_if (q_eq hr.r (vo (ev (e_call h__law_pv_power (hr.mono (by omega)) (a_val (ve (n_v 2 (pv 2) rfl)) (a_val (ve (n_v 1 (pv 1) rfl)) a_nil))))) (n_o 0 (pv 0) rfl)) (ss_one (s_ret (ve (n_v 2 (pv 2) rfl)))) ss_nil)))
    (ss_one (s_ret (ve c_int))))) ?_ rfl ?_
  · rintro as Q ⟨b, m, rfl, _⟩; rfl
  · rintro as Q ⟨b, m, rfl, hm, q⟩
    simp [cPow]
    refine for_inv (fun i ρ => ∃ (x2 : Option SV), ρ = [some (.dat (.int b)), some (.dat (.int m)), x2]) ⟨none, rfl⟩ ?_ ?_
    · rintro i d ρ hd ⟨x2, rfl⟩
      obtain ⟨rfl, hi⟩ := rg1_get hd
      simp [cPow]
      exact ⟨m, rfl, hm, sm_of (b := 71) (by omega) (by omega), q _ (by omega) (by omega)⟩
    · rintro ρ ⟨x2, rfl⟩
      simp
      exact q 0 (by omega) (by omega)
theorem b__law_pv_whole_root {k : Nat} {C : Ctr} (G : FnG P w K mg base CX0 k f fd (["base", "many"] : List Str) (spD K C)) (F : FunD K "_law_pv_whole_root" "_law_pv_whole_root" (defArgs s__law_pv_whole_root) (defBody s__law_pv_whole_root) (defScope s__law_pv_whole_root) [] [] f fd) (hm : mg "_law_pv_whole_root" = some (.ref f)) : Hs P w K mg base "_law_pv_whole_root" (["base", "many"] : List Str) k C := by
  refine hsF G hm F ?_
  intro kV doc pm an cdv ct us hl
  match us, hl with
  | [u0, u1], _ => rfl

theorem g__law_pv_number (F : FunD K "_law_pv_number" "_law_pv_number" (defArgs s__law_pv_number) (defBody s__law_pv_number) (defScope s__law_pv_number) [] [] f fd)  (h__law_pv_ratio : Hs P w K mg base "_law_pv_ratio" ["up", "down"] 2 cRatio) (h__law_pv_whole_root : Hs P w K mg base "_law_pv_whole_root" ["base", "many"] 2 cWRoot) (m_int : mg "int" = none) :
    FnG P w K mg base CX0 (3) f fd (["up", "down", "many"] : List Str) (spD K cNumber) := by
  have S : FnScope (["up", "down", "many", "prime", "left", "right"] : List Str) (["up", "down", "many"] : List Str) (defScope s__law_pv_number) := ⟨rfl, rfl, rfl, by decide +kernel, rfl, by decide +kernel, by decide +kernel⟩
  have nd : (["up", "down", "many", "prime", "left", "right"] : List Str).Nodup := by decide +kernel
  refine okF (k := 2) [] F S (fun cdv A outer s H E hr => (ss_cons (s_asg (ev (e_call h__law_pv_ratio (hr.mono (by omega)) (a_val (ve (n_v 0 (pv 0) rfl)) (a_val (ve (n_v 1 (pv 1) rfl)) a_nil)))) (t_tup (n := 2) rfl (ts_cons (t_name (i := 0) nd) (ts_cons (t_name (i := 1) nd) ts_nil))))
    (ss_cons (s_for PassesOwn.never rfl (i_lt (v_tup (g_cons (ve c_int) (g_cons (ve c_int) (g_cons (ve c_int) (g_cons (ve c_int) g_nil)))))) (t_name (i := 3) nd) (ss_one (s_if (q_eq hr.r (vo (p_mod (vo (p_int m_int (os_cons (n_o 2 (pv 2) rfl) os_nil))) (n_o 3 (pv 3) rfl))) (vo c_int)) (ss_cons (s_par (i := 4) (j := 5) rfl nd (g_cons (ve (ev (e_call h__law_pv_whole_root (hr.mono (by omega)) (a_val (ve (n_v 0 (pv 0) rfl)) (a_val (ve (n_v 3 (pv 3) rfl)) a_nil))))) (g_cons (ve (ev (e_call h__law_pv_whole_root (hr.mono (by omega)) (a_val (ve (n_v 1 (pv 1) rfl)) (a_val (ve (n_v 3 (pv 3) rfl)) a_nil))))) g_nil)))
    (ss_one (s_if (q_gt (vo (p_mul (n_o 4 (pv 4) rfl) (n_o 5 (pv 5) rfl))) (vo c_int)) (ss_one (s_par3 (i := 0) (j := 1) (l := 2) rfl nd (g_cons (ve (n_v 4 (pv 4) rfl)) (g_cons (ve (n_v 5 (pv 5) rfl)) (g_cons (ve (p_div (n_o 2 (pv 2) rfl) (n_o 3 (pv 3) rfl))) g_nil))))) ss_nil))) ss_nil)))
    (ss_one (s_ret (ve (v_tup (g_cons (ve (n_v 0 (pv 0) rfl)) (g_cons (ve (n_v 1 (pv 1) rfl)) (g_cons (ve (n_v 2 (pv 2) rfl)) g_nil)))))))))) ?_ rfl ?_
  · rintro as Q ⟨u, v, w, rfl, _⟩; rfl
  · rintro as Q ⟨u, v, w, rfl, u1, u2, v1, v2, w1, w2, q⟩
    obtain ⟨n1, n2, n3⟩ := num_bd u1 v1
    have n4 := (Rat.divInt u v).den_pos
    simp [cRatio]
    refine ⟨by omega, sm_of (k := 8900) (b := 71) (by omega) (by omega) (Nat.lt_of_lt_of_le (show (71 : Int).natAbs < 2 ^ 7 by decide) (Nat.pow_le_pow_right (by decide) (by decide))), _, rfl, rfl, _, _, rfl, _, _, rfl, rfl, ?_⟩
    refine for_inv (fun i ρ => ∃ (a b c : Int) (x3 x4 x5 : Option SV), 1 ≤ a ∧ a ≤ 70 ∧ 1 ≤ b ∧ b ≤ 70 ∧ 1 ≤ c ∧ c ≤ 5 ∧ ρ = [some (.dat (.int a)), some (.dat (.int b)), some (.dat (.int c)), x3, x4, x5]) ⟨_, _, w, none, none, none, n1, by omega, by omega, by omega, w1, w2, rfl⟩ ?_ ?_
    · rintro i d ρ hd ⟨a, b, c, x3, x4, x5, a1, a2, b1, b2, c1, c2, rfl⟩
      obtain ⟨p, rfl, p1, p2⟩ : ∃ p : Nat, d = .int p ∧ 2 ≤ p ∧ p ≤ 5 := by
        have m := List.mem_of_getElem? hd
        simp at m
        rcases m with rfl | rfl | rfl
        · exact ⟨2, rfl, by decide, by decide⟩
        · exact ⟨3, rfl, by decide, by decide⟩
        · exact ⟨5, rfl, by decide, by decide⟩
      have sp : Sm 8 (p : Int) := sm_of (b := 5) (by omega) (by omega)
      refine ⟨by simp, halt fun g hg => ?_⟩
      simp [cWRoot]
      refine ⟨by omega, ?_⟩
      by_cases z : c.fmod p = 0
      · rw [if_pos z]
        refine ⟨p, rfl, p2, fun v v0 v1 => ⟨p, rfl, p2, fun y y0 y1 => ⟨(sm_of (k := 8) (b := 70) (by omega) (by omega)).ok (sm_of (k := 8) (b := 70) (by omega) (by omega)), ?_⟩⟩⟩
        rcases Int.lt_or_le 0 (v * y) with w | w
        · have hv : v ≠ 0 := fun e => by rw [e] at w; simp at w
          have hy : y ≠ 0 := fun e => by rw [e] at w; simp at w
          have hc : 1 ≤ c.fdiv p ∧ c.fdiv p ≤ 5 := by
            have pc : p = 2 ∨ p = 3 ∨ p = 4 ∨ p = 5 := by omega
            have cc : c = 1 ∨ c = 2 ∨ c = 3 ∨ c = 4 ∨ c = 5 := by omega
            rcases pc with rfl | rfl | rfl | rfl <;> rcases cc with rfl | rfl | rfl | rfl | rfl <;> revert z <;> decide
          exact .inr ⟨w, by omega, sp.pylong c, hg _ ⟨v, y, c.fdiv p, _, _, _, by omega, v1, by omega, y1, hc.1, hc.2, rfl⟩⟩
        · exact .inl ⟨w, hg _ ⟨a, b, c, _, _, _, a1, a2, b1, b2, c1, c2, rfl⟩⟩
      · rw [if_neg z]
        exact hg _ ⟨a, b, c, _, _, _, a1, a2, b1, b2, c1, c2, rfl⟩
    · rintro ρ ⟨a, b, c, x3, x4, x5, a1, a2, b1, b2, c1, c2, rfl⟩
      simp
      exact q _ ⟨a, b, c, rfl, a1, a2, b1, b2, c1, c2⟩
theorem b__law_pv_number {k : Nat} {C : Ctr} (G : FnG P w K mg base CX0 k f fd (["up", "down", "many"] : List Str) (spD K C)) (F : FunD K "_law_pv_number" "_law_pv_number" (defArgs s__law_pv_number) (defBody s__law_pv_number) (defScope s__law_pv_number) [] [] f fd) (hm : mg "_law_pv_number" = some (.ref f)) : Hs P w K mg base "_law_pv_number" (["up", "down", "many"] : List Str) k C := by
  refine hsF G hm F ?_
  intro kV doc pm an cdv ct us hl
  match us, hl with
  | [u0, u1, u2], _ => rfl

theorem g__law_pv_drawn_number (F : FunD K "_law_pv_drawn_number" "_law_pv_drawn_number" (defArgs s__law_pv_drawn_number) (defBody s__law_pv_drawn_number) (defScope s__law_pv_drawn_number) [] [] f fd)  (h__law_pv_coin : Hs P w K mg base "_law_pv_coin" ["sack", "many"] 1 cCoin) (h__law_pv_number : Hs P w K mg base "_law_pv_number" ["up", "down", "many"] 3 cNumber) :
    FnG P w K mg base CX0 (4) f fd (["sack", "top"] : List Str) (spD K cDrawn) := by
  have S : FnScope (["sack", "top", "many", "most"] : List Str) (["sack", "top"] : List Str) (defScope s__law_pv_drawn_number) := ⟨rfl, rfl, rfl, by decide +kernel, rfl, by decide +kernel, by decide +kernel⟩
  have nd : (["sack", "top", "many", "most"] : List Str).Nodup := by decide +kernel
  refine okF (k := 3) [0] F S (fun cdv A outer s H E hr => (ss_cons (s_par (i := 2) (j := 3) rfl nd (g_cons (ve (p_add (vo c_int) (vo (ev (e_call h__law_pv_coin (hr.mono (by omega)) (a_ref 0 (pv 0) rfl (a_val (ve c_int) a_nil))))))) (g_cons (ve (v_ix (vo (ev (e_lst (g_cons (ve c_int) (g_cons (ve c_int) (g_cons (ve (n_v 1 (pv 1) rfl)) g_nil)))))) (vo (ev (e_call h__law_pv_coin (hr.mono (by omega)) (a_ref 0 (pv 0) rfl (a_val (ve c_int) a_nil))))))) g_nil)))
    (ss_one (s_ret (e_call h__law_pv_number (hr.mono (by omega)) (a_val (ve (p_add (vo c_int) (vo (ev (e_call h__law_pv_coin (hr.mono (by omega)) (a_ref 0 (pv 0) rfl (a_val (ve (n_v 1 (pv 1) rfl)) a_nil))))))) (a_val (ve (p_add (vo c_int) (vo (ev (e_call h__law_pv_coin (hr.mono (by omega)) (a_ref 0 (pv 0) rfl (a_val (ve (n_v 3 (pv 3) rfl)) a_nil))))))) (a_val (ve (n_v 2 (pv 2) rfl)) a_nil)))))))) ?_ rfl ?_
  · rintro as Q ⟨s, c, rfl, _⟩; rfl
  · rintro as Q ⟨s, c, rfl, hs, hc, q⟩
    simp [cCoin, cNumber]
    refine ⟨c, hs, by omega, smc, fun n1 s1 c1 a0 a1 k1 e1 => ⟨c1, k1, by omega, smc, fun n2 s2 c2 b0 b1 k2 e2 => ?_⟩⟩
    obtain ⟨m, m1, m2, em⟩ : ∃ m : Int, 1 ≤ m ∧ m ≤ 12 ∧ atI [DD.int 1, DD.int 3, DD.int 12] n2 = some (.int m) := by
      have : n2 = 0 ∨ n2 = 1 ∨ n2 = 2 := by omega
      rcases this with rfl | rfl | rfl
      · exact ⟨1, by omega, by omega, by simp⟩
      · exact ⟨3, by omega, by omega, by simp⟩
      · exact ⟨12, by omega, by omega, by simp⟩
    refine ⟨_, em, c2, k2, by omega, smc, fun n3 s3 c3 d0 d1 k3 e3 => ⟨c3, m, rfl, k3, by omega, by omega, sm_of (k := 8000) (b := 13) (by omega) (by omega) (Nat.lt_of_lt_of_le (show (13 : Int).natAbs < 2 ^ 7 by decide) (Nat.pow_le_pow_right (by decide) (by decide))), fun n4 s4 c4 f0 f1 k4 e4 => ?_⟩⟩
    exact ⟨by omega, by omega, by omega, by omega, by omega, by omega, fun d hd => q d s4 c4 hd k4 (by omega)⟩
theorem b__law_pv_drawn_number {k : Nat} {C : Ctr} (G : FnG P w K mg base CX0 k f fd (["sack", "top"] : List Str) (spD K C)) (F : FunD K "_law_pv_drawn_number" "_law_pv_drawn_number" (defArgs s__law_pv_drawn_number) (defBody s__law_pv_drawn_number) (defScope s__law_pv_drawn_number) [] [] f fd) (hm : mg "_law_pv_drawn_number" = some (.ref f)) : Hs P w K mg base "_law_pv_drawn_number" (["sack", "top"] : List Str) k C := by
  refine hsF G hm F ?_
  intro kV doc pm an cdv ct us hl
  match us, hl with
  | [u0, u1], _ => rfl

theorem g__law_pv_base (F : FunD K "_law_pv_base" "_law_pv_base" (defArgs s__law_pv_base) (defBody s__law_pv_base) (defScope s__law_pv_base) [] [] f fd)  :
    FnG P w K mg base CX0 (1) f fd (["number"] : List Str) (spD K cBase) := by
  have S : FnScope (["number"] : List Str) (["number"] : List Str) (defScope s__law_pv_base) := ⟨rfl, rfl, rfl, by decide +kernel, rfl, by decide +kernel, by decide +kernel⟩
  have nd : (["number"] : List Str).Nodup := by decide +kernel
  refine okF (k := 0) [] F S (fun cdv A outer s H E hr => (ss_one (s_ret (e_add (e_add (e_lst (g_cons (ve (p_sub (vo c_int) (vo (v_ix (n_o 0 (pv 0) rfl) (vo c_int))))) g_nil)) (e_rep (e_lst (g_cons (ve c_int) g_nil)) (ve (p_sub (vo (v_ix (n_o 0 (pv 0) rfl) (vo c_int))) (vo c_int))))) (e_lst (g_cons (ve (v_ix (n_o 0 (pv 0) rfl) (vo c_int))) g_nil)))))) ?_ rfl ?_
  · rintro as Q ⟨d, rfl, _⟩; rfl
  · rintro as Q ⟨d, rfl, ⟨u, v, w, rfl, u1, u2, v1, v2, w1, w2⟩, q⟩
    obtain ⟨m, rfl⟩ : ∃ m : Nat, w = (m : Int) + 1 := ⟨(w - 1).toNat, by omega⟩
    have e : ((m : Int) + 1 - 1) = (m : Int) := by omega
    simp [e, repT_int]
    have m4 : 1 + m ≤ 5 := by omega
    refine ⟨by omega, by omega, Nat.le_trans m4 (by decide), Nat.le_trans m4 (by decide), ?_⟩
    have := q ([-u] ++ List.replicate m 0 ++ [v]) (by simp) (by simp; omega) (fun c hc => by
      simp at hc
      rcases hc with rfl | ⟨_, rfl⟩ | rfl
      · show _ ≤ 70; omega
      · decide
      · show _ ≤ 70; omega) (by rw [List.getLast?_concat]; simp; omega)
    simpa [oI, tI, dI] using this
theorem b__law_pv_base {k : Nat} {C : Ctr} (G : FnG P w K mg base CX0 k f fd (["number"] : List Str) (spD K C)) (F : FunD K "_law_pv_base" "_law_pv_base" (defArgs s__law_pv_base) (defBody s__law_pv_base) (defScope s__law_pv_base) [] [] f fd) (hm : mg "_law_pv_base" = some (.ref f)) : Hs P w K mg base "_law_pv_base" (["number"] : List Str) k C := by
  refine hsF G hm F ?_
  intro kV doc pm an cdv ct us hl
  match us, hl with
  | [u0], _ => rfl

theorem g__law_pv_factor (F : FunD K "_law_pv_factor" "_law_pv_factor" (defArgs s__law_pv_factor) (defBody s__law_pv_factor) (defScope s__law_pv_factor) [] [] f fd)  (h__law_pv_coin : Hs P w K mg base "_law_pv_coin" ["sack", "many"] 1 cCoin) (h__law_pv_ratio : Hs P w K mg base "_law_pv_ratio" ["up", "down"] 2 cRatio) (h__law_pv_drawn_number : Hs P w K mg base "_law_pv_drawn_number" ["sack", "top"] 4 cDrawn) (h__law_pv_base : Hs P w K mg base "_law_pv_base" ["number"] 1 cBase) (m_int : mg "int" = none) (m_max : mg "max" = none) (m_abs : mg "abs" = none) :
    FnG P w K mg base CX0 (5) f fd (["sack"] : List Str) (spD K cFactor) := by
  have S : FnScope (["sack", "kind", "up", "down", "side", "number", "found"] : List Str) (["sack"] : List Str) (defScope s__law_pv_factor) := ⟨rfl, rfl, rfl, by decide +kernel, rfl, by decide +kernel, by decide +kernel⟩
  have nd : (["sack", "kind", "up", "down", "side", "number", "found"] : List Str).Nodup := by decide +kernel
  refine okF (k := 4) [0] F S (fun cdv A outer s H E hr => (ss_cons (s_set (i := 1) nd (ve (ev (e_call h__law_pv_coin (hr.mono (by omega)) (a_ref 0 (pv 0) rfl (a_val (ve c_int) a_nil))))))
    (ss_cons (s_if (q_eq hr.r (n_o 1 (pv 1) rfl) (vo c_int)) (ss_one (s_ret (ve (v_tup (g_cons (e_lst (g_cons (ve (p_add (vo c_int) (vo (ev (e_call h__law_pv_coin (hr.mono (by omega)) (a_ref 0 (pv 0) rfl (a_val (ve c_int) a_nil))))))) (g_cons (ve c_int) (g_cons (ve c_int) g_nil)))) (g_cons (e_lst g_nil) g_nil)))))) ss_nil)
    (ss_cons (s_if (q_lt (n_o 1 (pv 1) rfl) (vo c_int)) (ss_cons (s_asg (ev (e_call h__law_pv_ratio (hr.mono (by omega)) (a_val (ve (p_sub (vo (ev (e_call h__law_pv_coin (hr.mono (by omega)) (a_ref 0 (pv 0) rfl (a_val (ve c_int) a_nil))))) (vo c_int))) (a_val (ve (p_add (vo c_int) (vo (ev (e_call h__law_pv_coin (hr.mono (by omega)) (a_ref 0 (pv 0) rfl (a_val (ve c_int) a_nil))))))) a_nil)))) (t_tup (n := 2) rfl (ts_cons (t_name (i := 2) nd) (ts_cons (t_name (i := 3) nd) ts_nil))))
    (ss_cons (s_set (i := 4) nd (ve (p_sub (vo (p_int m_int (os_cons (vo (p_gt (n_o 2 (pv 2) rfl) (vo c_int))) os_nil))) (vo (p_int m_int (os_cons (vo (p_lt (n_o 2 (pv 2) rfl) (vo c_int))) os_nil))))))
    (ss_one (s_ret (ve (v_tup (g_cons (e_lst (g_cons (ve (p_sub (vo c_int) (n_o 2 (pv 2) rfl))) (g_cons (ve (n_v 3 (pv 3) rfl)) g_nil))) (g_cons (e_lst (g_cons (ve (v_tup (g_cons (ve (n_v 4 (pv 4) rfl)) (g_cons (ve (v_tup (g_cons (ve (p_max rfl m_max (os_cons (vo c_int) (os_cons (vo (p_abs m_abs (os_cons (n_o 2 (pv 2) rfl) os_nil))) os_nil)))) (g_cons (ve (n_v 3 (pv 3) rfl)) (g_cons (ve c_int) g_nil))))) g_nil)))) g_nil)) g_nil)))))))) ss_nil)
    (ss_cons (s_set (i := 5) nd (ve (ev (e_call h__law_pv_drawn_number (hr.mono (by omega)) (a_ref 0 (pv 0) rfl (a_val (ve c_int) a_nil))))))
    (ss_cons (s_set (i := 6) nd (ve (ev (e_lst (g_cons (ve (v_tup (g_cons (ve c_int) (g_cons (ve (n_v 5 (pv 5) rfl)) g_nil)))) g_nil)))))
    (ss_cons (s_if (q_eq hr.r (vo (p_mod (vo (p_int m_int (os_cons (vo (v_ix (n_o 5 (pv 5) rfl) (vo c_int))) os_nil))) (vo c_int))) (vo c_int)) (ss_one (s_set (i := 6) nd (ve (ev (e_add (ve (n_v 6 (pv 6) rfl)) (e_lst (g_cons (ve (v_tup (g_cons (ve (p_neg (vo c_int))) (g_cons (ve (n_v 5 (pv 5) rfl)) g_nil)))) g_nil))))))) ss_nil)
    (ss_one (s_ret (ve (v_tup (g_cons (e_call h__law_pv_base (hr.mono (by omega)) (a_val (ve (n_v 5 (pv 5) rfl)) a_nil)) (g_cons (ve (n_v 6 (pv 6) rfl)) g_nil))))))))))))) ?_ rfl ?_
  · rintro as Q ⟨s, c, rfl, _⟩; rfl
  · rintro as Q ⟨s, c, rfl, hs, hc, q⟩
    refine cut (fun ρ => ∃ (n : Int) (s1 : SV) (c1 : Nat), 0 ≤ n ∧ n < 4 ∧ Sk c1 s1 ∧ c1 ≤ c + 1 ∧ ρ = [some s1, some (.dat (.int n)), none, none, none, none, none]) ?_ fun g hg => ?_
    rotate_left
    · simp [cCoin]
      exact ⟨c, hs, by omega, smc, fun n s1 c1 a0 a1 k1 e1 => hg _ ⟨n, s1, c1, a0, a1, k1, e1, rfl⟩⟩
    rintro ρ ⟨n, s1, c1, n0, n1, k1, e1, rfl⟩
    refine cut (fun ρ => ρ = [some s1, some (.dat (.int n)), none, none, none, none, none]) ?_ fun g hg => ?_
    rotate_left
    · simp [cCoin]
      by_cases z : n = 0
      · rw [if_pos z]
        refine ⟨c1, k1, by omega, smc, fun m s2 c2 b0 b1 k2 e2 => ?_⟩
        exact q ⟨[1 + m, 0, 1], .lst []⟩ s2 c2 ⟨by simp, by simp, fun c hc => by
          simp at hc
          rcases hc with rfl | rfl | rfl
          · show _ ≤ 70; omega
          · decide
          · decide, by simp, Pd.mono (Pd.lst (n := 0) fun _ m => nomatch m) (by decide)⟩ k2 (by omega)
      · rw [if_neg z]
        exact hg _ rfl
    rintro ρ rfl
    refine cut (fun ρ => ρ = [some s1, some (.dat (.int n)), none, none, none, none, none]) ?_ fun g hg => ?_
    rotate_left
    · refine if_go (decide (n < 3)) (fun Q2 h => by
        simp
        rcases Int.lt_or_le n 3 with w | w
        · rw [decide_eq_true w] at h; exact .inr ⟨w, h⟩
        · rw [decide_eq_false (by omega)] at h; exact .inl ⟨w, h⟩) ?_
      rcases Int.lt_or_le n 3 with w | w
      · rw [if_pos (by simpa using w)]
        refine cut (fun ρ => ∃ (q : Rat) (s2 : SV) (c2 : Nat), -6 ≤ q.num ∧ q.num ≤ 6 ∧ q.den ≤ 4 ∧ Sk c2 s2 ∧ c2 ≤ c + 3 ∧ ρ = [some s2, some (.dat (.int n)), some (.dat (.int q.num)), some (.dat (.int q.den)), none, none, none]) ?_ fun g2 hg2 => ?_
        rotate_left
        · simp [cCoin, cRatio]
          refine ⟨c1, k1, by omega, smc, fun a s2 c2 a0 a1 k2 e2 => ⟨c2, k2, by omega, smc, fun b s3 c3 b0 b1 k3 e3 => ⟨by omega, sm_of (k := 8900) (b := 5) (by omega) (by omega) (Nat.lt_of_lt_of_le (show (5 : Int).natAbs < 2 ^ 7 by decide) (Nat.pow_le_pow_right (by decide) (by decide))), _, rfl, rfl, _, _, rfl, _, _, rfl, rfl, ?_⟩⟩⟩
          obtain ⟨f1, f2, f3⟩ := frac_bd (u := a - 6) (v := 1 + b) (B := 6) (C := 4) (by omega) (by omega) (by omega) (by omega)
          exact hg2 _ ⟨Rat.divInt (a - 6) (1 + b), s3, c3, f1, f2, f3, k3, by omega, rfl⟩
        rintro ρ ⟨y, s2, c2, y1, y2, y3, k2, e2, rfl⟩
        have y4 := y.den_pos
        refine cut (fun ρ => ∃ i : Int, ρ = [some s2, some (.dat (.int n)), some (.dat (.int y.num)), some (.dat (.int y.den)), some (.dat (.int i)), none, none]) ?_ fun g2 hg2 => ?_
        rotate_left
        · simp
          rcases Int.lt_trichotomy y.num 0 with h | h | h
          · exact .inl ⟨by omega, .inr ⟨h, hg2 _ ⟨_, rfl⟩⟩⟩
          · exact .inl ⟨by omega, .inl ⟨Rat.num_nonneg.mp (by omega), hg2 _ ⟨_, rfl⟩⟩⟩
          · exact .inr ⟨h, .inl ⟨Rat.num_nonneg.mp (by omega), hg2 _ ⟨_, rfl⟩⟩⟩
        rintro ρ ⟨i, rfl⟩
        simp
        refine q ⟨[-y.num, (y.den : Int)], .lst [.tup [.int i, .tup [.int (if 1 < if y.num < 0 then -y.num else y.num then if y.num < 0 then -y.num else y.num else 1), .int y.den, .int 1]]]⟩ s2 c2 ⟨by simp, by simp, fun c hc => by
          simp at hc
          rcases hc with rfl | rfl
          · show _ ≤ 70; omega
          · show _ ≤ 70; omega, by simp; omega, Pd.lst fun x m => ?_⟩ k2 (by omega)
        simp at m
        subst m
        refine Pd.tup fun x m => ?_
        simp only [List.mem_cons, List.not_mem_nil, or_false] at m
        rcases m with rfl | rfl
        · exact Pd.int _ _
        · refine Pd.tup fun x m => ?_
          simp only [List.mem_cons, List.not_mem_nil, or_false] at m
          rcases m with rfl | rfl | rfl <;> exact Pd.int _ _
      · rw [if_neg (by simpa using w)]
        exact hg _ rfl
    rintro ρ rfl
    refine cut (fun ρ => ∃ (d : DD) (s2 : SV) (c2 : Nat), Nm 5 d ∧ Sk c2 s2 ∧ c2 ≤ c + 5 ∧ ρ = [some s2, some (.dat (.int n)), none, none, none, some (.dat d), none]) ?_ fun g hg => ?_
    rotate_left
    · simp [cDrawn]
      exact ⟨c1, k1, by omega, fun d s2 c2 hd k2 e2 => hg _ ⟨d, s2, c2, hd, k2, by omega, rfl⟩⟩
    rintro ρ ⟨d, s2, c2, hd, k2, e2, rfl⟩
    have pd : Pd 1 d := by
      obtain ⟨u, v, w, rfl, _⟩ := hd
      exact Pd.tup fun d m => by
        simp at m
        rcases m with rfl | rfl | rfl <;> exact Pd.int _ _
    have pt : ∀ i : Int, Pd 2 (.tup [.int i, d]) := fun i => Pd.tup fun x m => by
      simp at m
      rcases m with rfl | rfl
      · exact Pd.int _ _
      · exact pd
    refine cut (fun ρ => ρ = [some s2, some (.dat (.int n)), none, none, none, some (.dat d), some (.dat (.lst [.tup [.int 1, d]]))]) ?_ fun g2 hg2 => ?_
    rotate_left
    · simp
      exact hg2 _ rfl
    rintro ρ rfl
    refine cut (fun ρ => ∃ r : DD, Pd 3 r ∧ ρ = [some s2, some (.dat (.int n)), none, none, none, some (.dat d), some (.dat r)]) ?_ fun g hg => ?_
    · rintro ρ ⟨r, hr, rfl⟩
      simp [cBase]
      exact ⟨hd, fun p p1 p2 p3 p4 => by
        rw [oI_data]
        exact q ⟨p, r⟩ s2 c2 ⟨p1, p2, p3, p4, hr⟩ k2 (by omega)⟩
    have r1 : Pd 3 (.lst [.tup [.int 1, d]]) := Pd.lst fun x m => by
      simp at m
      subst m
      exact pt 1
    have r2 : Pd 3 (.lst [.tup [.int 1, d], .tup [.int (-1), d]]) := Pd.lst fun x m => by
      simp at m
      rcases m with rfl | rfl
      · exact pt 1
      · exact pt (-1)
    obtain ⟨u, v, w, rfl, _, _, _, _, w1, w2⟩ := hd
    simp
    by_cases z : w.fmod 2 = 0
    · rw [if_pos z]
      exact hg _ ⟨_, r2, rfl⟩
    · rw [if_neg z]
      exact hg _ ⟨_, r1, rfl⟩
theorem b__law_pv_factor {k : Nat} {C : Ctr} (G : FnG P w K mg base CX0 k f fd (["sack"] : List Str) (spD K C)) (F : FunD K "_law_pv_factor" "_law_pv_factor" (defArgs s__law_pv_factor) (defBody s__law_pv_factor) (defScope s__law_pv_factor) [] [] f fd) (hm : mg "_law_pv_factor" = some (.ref f)) : Hs P w K mg base "_law_pv_factor" (["sack"] : List Str) k C := by
  refine hsF G hm F ?_
  intro kV doc pm an cdv ct us hl
  match us, hl with
  | [u0], _ => rfl

theorem g__law_pv_factors (F : FunD K "_law_pv_factors" "_law_pv_factors" (defArgs s__law_pv_factors) (defBody s__law_pv_factors) (defScope s__law_pv_factors) [] [] f fd)  (h__law_pv_coin : Hs P w K mg base "_law_pv_coin" ["sack", "many"] 1 cCoin) (h__law_pv_factor : Hs P w K mg base "_law_pv_factor" ["sack"] 5 cFactor) (m_range : mg "range" = none) (m_len : mg "len" = none) (m_sum : mg "sum" = none) (m_abs : mg "abs" = none) :
    FnG P w K mg base CX0 (6) f fd (["sack", "degree"] : List Str) (spD K cFactors) := by
  have S : FnScope (["sack", "degree", "found", "size", "turn", "fresh", "weight", "piece"] : List Str) (["sack", "degree"] : List Str) (defScope s__law_pv_factors) := ⟨rfl, rfl, rfl, by decide +kernel, rfl, by decide +kernel, by decide +kernel⟩
  have nd : (["sack", "degree", "found", "size", "turn", "fresh", "weight", "piece"] : List Str).Nodup := by decide +kernel
  refine okF (k := 5) [0] F S (fun cdv A outer s H E hr => (ss_cons (s_par (i := 2) (j := 3) rfl nd (g_cons (e_lst g_nil) (g_cons (ve c_int) g_nil)))
    (ss_cons (s_for PassesOwn.never rfl (i_rg1 m_range (os_cons (vo (ev (e_call h__law_pv_coin (hr.mono (by omega)) (a_ref 0 (pv 0) rfl (a_val (ve c_int) a_nil))))) os_nil)) (t_name (i := 4) nd) (ss_cons (s_set (i := 5) nd (ve (ev (e_call h__law_pv_factor (hr.mono (by omega)) (a_ref 0 (pv 0) rfl a_nil)))))
    (ss_cons (s_if (t_w (w_and (q_ne hr.r (n_o 2 (pv 2) rfl) (vo (ev (e_lst g_nil)))) (w_and1 (q_eq hr.r (vo (ev (e_call h__law_pv_coin (hr.mono (by omega)) (a_ref 0 (pv 0) rfl (a_val (ve c_int) a_nil))))) (vo c_int))))) (ss_one (s_set (i := 5) nd (ve (v_ix (n_o 2 (pv 2) rfl) (vo (ev (e_call h__law_pv_coin (hr.mono (by omega)) (a_ref 0 (pv 0) rfl (a_val (ve (p_len m_len (os_cons (n_o 2 (pv 2) rfl) os_nil))) a_nil))))))))) ss_nil)
    (ss_cons (s_set (i := 6) nd (ve (p_sum rfl m_sum (os_cons (vo (ev (e_lc (own := [("piece", 7)]) rfl nd (i_lt (v_ix (n_o 5 (pv 5) rfl) (vo c_int))) rfl (fun _ _ _ _ _ => (t_name (i := 7) nd)) (fun _ _ _ _ _ => ifs_nil) (fun _ _ _ _ _ => (ve (p_abs m_abs (os_cons (n_o 7 (pv 7) rfl) os_nil))))))) os_nil))))
    (ss_one (s_if (t_w (w_and (q_le (vo (p_sub (vo (p_len m_len (os_cons (vo (v_ix (n_o 5 (pv 5) rfl) (vo c_int))) os_nil))) (vo c_int))) (n_o 1 (pv 1) rfl)) (w_and1 (q_le (vo (p_mul (n_o 3 (pv 3) rfl) (n_o 6 (pv 6) rfl))) (vo (p_pow (vo c_int) (vo c_int))))))) (ss_cons (s_expr (e_app 2 (pv 2) rfl (ve (n_v 5 (pv 5) rfl)) rfl (fun t h => pe_bm PySem.F.plainAttrs_list PySem.F.slot_list_append PySem.F.type_list_append mt_append (pv 2) h)))
    (ss_one (s_par (i := 3) (j := 1) rfl nd (g_cons (ve (p_mul (n_o 3 (pv 3) rfl) (n_o 6 (pv 6) rfl))) (g_cons (ve (p_add (vo (p_sub (n_o 1 (pv 1) rfl) (vo (p_len m_len (os_cons (vo (v_ix (n_o 5 (pv 5) rfl) (vo c_int))) os_nil))))) (vo c_int))) g_nil))))) ss_nil))))))
    (ss_one (s_ret (n_mv 2 (pv 2) rfl)))))) ?_ rfl ?_
  · rintro as Q ⟨s, c, rfl, _⟩; rfl
  · rintro as Q ⟨s, c, rfl, hs, hc, q⟩
    refine cut (fun ρ => ρ = [some s, some (.dat (.int 7)), some (.own []), some (.dat (.int 3)), none, none, none, none]) ?_ fun g hg => ?_
    rotate_left
    · simp
      exact hg _ rfl
    rintro ρ rfl
    simp [cCoin]
    refine ⟨c, hs, by omega, smc, fun n s1 c1 a0 a1 k1 e1 => ⟨by omega, by omega, ?_⟩⟩
    refine for_inv (fun i ρ => ∃ (s1 : SV) (c1 : Nat) (xs : List Fc) (x4 x5 x6 x7 : Option SV), Sk c1 s1 ∧ c1 ≤ c + 1 + 12 * i ∧ xs.length ≤ i ∧ (∀ x ∈ xs, x.ok) ∧ degs xs ≤ 7 ∧ 3 * wts xs ≤ 1000000 ∧ (x7 = none ∨ ∃ d, x7 = some (.dat d)) ∧ ρ = [some s1, some (.dat (.int (7 - degs xs))), some (.own (xs.map fun x => .dat x.d)), some (.dat (.int (3 * wts xs))), x4, x5, x6, x7])
      ⟨s1, c1, [], none, none, none, none, k1, by omega, by simp, (fun _ m => nomatch m), by decide, by decide, .inl rfl, by simp [degs, wts]⟩ ?_ ?_
    · rintro i d ρ hd ⟨s2, c2, xs, x4, x5, x6, x7, k2, e2, xl, hx, hg, hw, p7, rfl⟩
      obtain ⟨rfl, hi⟩ := rg_get hd
      have hi6 : i < 6 := by omega
      have okx : okD (.lst (xs.map Fc.d)) = true := (Pd.lst (n := 4) fun d m => by
        obtain ⟨x, hm, rfl⟩ := List.mem_map.mp m
        exact Fc.pd (hx x hm)).okD (by decide)
      refine ⟨by simp, halt fun g hg2 => ?_⟩
      refine cut (fun ρ => ∃ (s3 : SV) (c3 : Nat) (x : Fc), x.ok ∧ Sk c3 s3 ∧ c3 ≤ c2 + 10 ∧ ρ = [some s3, some (.dat (.int (7 - degs xs))), some (.own (xs.map fun x => .dat x.d)), some (.dat (.int (3 * wts xs))), some (.dat (.int i)), some (.dat x.d), x6, x7]) ?_ fun g3 hg3 => ?_
      rotate_left
      · simp [cFactor]
        exact ⟨c2, k2, by omega, fun x s3 c3 hx3 k3 e3 => hg3 _ ⟨s3, c3, x, hx3, k3, e3, rfl⟩⟩
      rintro ρ ⟨s3, c3, x, hx3, k3, e3, rfl⟩
      refine cut (fun ρ => ∃ (s3 : SV) (c3 : Nat) (x : Fc), x.ok ∧ Sk c3 s3 ∧ c3 ≤ c2 + 12 ∧ ρ = [some s3, some (.dat (.int (7 - degs xs))), some (.own (xs.map fun x => .dat x.d)), some (.dat (.int (3 * wts xs))), some (.dat (.int i)), some (.dat x.d), x6, x7]) ?_ fun g3 hg3 => ?_
      rotate_left
      · simp [cCoin, datas_fc, eqD_nil]
        refine ⟨okx, ?_⟩
        by_cases x0 : xs = []
        · exact .inl ⟨x0, hg3 _ ⟨s3, c3, x, hx3, k3, by omega, rfl⟩⟩
        · have xp := List.length_pos_iff.mpr x0
          refine .inr ⟨x0, c3, k3, by omega, smc, fun t s4 c4 t0 t1 k4 e4 => ?_⟩
          by_cases z : t = 0
          · rw [if_pos z]
            refine ⟨c4, k4, by omega, xp, ?_, fun j s5 c5 j0 j1 k5 e5 => ?_⟩
            · unfold Sm
              exact Nat.lt_of_lt_of_le (show ((xs.length : Nat) : Int).natAbs < 2 ^ 3 by simp; omega) (Nat.pow_le_pow_right (by decide) (by decide))
            · obtain ⟨k, rfl⟩ := Int.eq_ofNat_of_zero_le j0
              have kl : k < xs.length := by omega
              refine ⟨xs[k].d, ?_, hg3 _ ⟨s5, c5, xs[k], hx _ (List.getElem_mem kl), k5, by omega, rfl⟩⟩
              show atI (xs.map fun x => SV.dat x.d) (k : Int) = _
              rw [atI_nat (by simpa using kl)]
              simp
          · rw [if_neg z]
            exact hg3 _ ⟨s4, c4, x, hx3, k4, by omega, rfl⟩
      rintro ρ ⟨s4, c4, y, hy, k4, e4, rfl⟩
      refine cut (fun ρ => ρ = [some s4, some (.dat (.int (7 - degs xs))), some (.own (xs.map fun x => .dat x.d)), some (.dat (.int (3 * wts xs))), some (.dat (.int i)), some (.dat y.d), some (.dat (.int (nrm y.p))), x7]) ?_ fun g3 hg3 => ?_
      rotate_left
      · simp [Fc.d, dI]
        refine lc_map absD ?_ ?_ ?_ ?_
        · have := hy.2.1; simp [sizeLine]; omega
        · rcases p7 with rfl | ⟨d, rfl⟩ <;> simp [plainB]
        · intro d hd R hR
          obtain ⟨a, _, rfl⟩ := List.mem_map.mp hd
          simp [wipeR, unwipe]
          rw [show (if a < 0 then -a else a) = ((a.natAbs : Nat) : Int) by split <;> omega]
          exact hR
        · rw [absD_all]
          refine ⟨y.p.map fun a => (a.natAbs : Int), by simp [SV.datas_eq, Function.comp_def], ?_⟩
          rw [nrm_sum]
          exact hg3 _ (by simp [Fc.d, dI])
      rintro ρ rfl
      have hl := hy.1
      have nb : nrm y.p ≤ 420 := nrm_len hy.2.1 hy.2.2.1
      simp [Fc.d, dI]
      rcases Int.lt_or_le (7 - (degs xs : Int)) ((y.p.length : Int) - 1) with w | w
      · exact .inl ⟨w, hg2 _ ⟨s4, c4, xs, some (.dat (.int i)), some (.dat y.d), some (.dat (.int (nrm y.p))), x7, k4, by omega, by omega, hx, hg, hw, p7, by simp [Fc.d, dI]⟩⟩
      · refine .inr ⟨w, ?_⟩
        have mok : IntMulOk (3 * (wts xs : Int)) (nrm y.p : Int) := (sm_of (k := 30) (b := 1000000) (by omega) (by omega)).ok (sm_of (k := 30) (b := 420) (by omega) (by omega))
        refine ⟨mok, ?_⟩
        have ec : 3 * (wts xs : Int) * (nrm y.p : Int) = ((3 * (wts (xs ++ [y])) : Nat) : Int) := by
          rw [wts_snoc]
          simp only [Int.natCast_mul]
          rw [Int.mul_assoc]
          rfl
        rcases Int.lt_or_le 1000000 (3 * (wts xs : Int) * (nrm y.p : Int)) with z | z
        · exact .inl ⟨z, hg2 _ ⟨s4, c4, xs, some (.dat (.int i)), some (.dat y.d), some (.dat (.int (nrm y.p))), x7, k4, by omega, by omega, hx, hg, hw, p7, by simp [Fc.d, dI]⟩⟩
        · have ds := degs_snoc xs y
          refine .inr ⟨z, by omega, mok, hg2 _ ⟨s4, c4, xs ++ [y], some (.dat (.int i)), some (.dat y.d), some (.dat (.int (nrm y.p))), x7, k4, by omega, by simp; omega, fun x m => ?_, by omega, by omega, p7, ?_⟩⟩
          · rcases List.mem_append.mp m with m | m
            · exact hx x m
            · have : x = y := by simpa using m
              subst this
              exact hy
          · rw [ec]
            have e7 : 7 - (degs xs : Int) - (y.p.length : Int) + 1 = 7 - ((degs (xs ++ [y]) : Nat) : Int) := by omega
            rw [e7]
            simp [Fc.d, dI]
    · rintro ρ ⟨s2, c2, xs, x4, x5, x6, x7, k2, e2, xl, hx, hg, hw, p7, rfl⟩
      simp
      exact q xs s2 c2 hx hg hw k2 (by simp [rgD] at e2; omega)
theorem b__law_pv_factors {k : Nat} {C : Ctr} (G : FnG P w K mg base CX0 k f fd (["sack", "degree"] : List Str) (spD K C)) (F : FunD K "_law_pv_factors" "_law_pv_factors" (defArgs s__law_pv_factors) (defBody s__law_pv_factors) (defScope s__law_pv_factors) [] [] f fd) (hm : mg "_law_pv_factors" = some (.ref f)) : Hs P w K mg base "_law_pv_factors" (["sack", "degree"] : List Str) k C := by
  refine hsF G hm F ?_
  intro kV doc pm an cdv ct us hl
  match us, hl with
  | [u0, u1], _ => rfl

theorem g__law_pv_multiplied (F : FunD K "_law_pv_multiplied" "_law_pv_multiplied" (defArgs s__law_pv_multiplied) (defBody s__law_pv_multiplied) (defScope s__law_pv_multiplied) [] [] f fd)  (h__law_pv_product : Hs P w K mg base "_law_pv_product" ["left", "right"] 2 cProdL) :
    FnG P w K mg base CX0 (3) f fd (["factors", "by"] : List Str) (spD K cMult) := by
  have S : FnScope (["factors", "by", "found", "poly", "roots"] : List Str) (["factors", "by"] : List Str) (defScope s__law_pv_multiplied) := ⟨rfl, rfl, rfl, by decide +kernel, rfl, by decide +kernel, by decide +kernel⟩
  have nd : (["factors", "by", "found", "poly", "roots"] : List Str).Nodup := by decide +kernel
  refine okF (k := 2) [] F S (fun cdv A outer s H E hr => (ss_cons (s_set (i := 2) nd (ve (ev (e_lst (g_cons (ve (n_v 1 (pv 1) rfl)) g_nil)))))
    (ss_cons (s_for PassesOwn.never rfl (i_lt (n_v 0 (pv 0) rfl)) (t_tup (n := 2) rfl (ts_cons (t_name (i := 3) nd) (ts_cons (t_name (i := 4) nd) ts_nil))) (ss_one (s_set (i := 2) nd (ve (ev (e_call h__law_pv_product (hr.mono (by omega)) (a_val (ve (n_v 2 (pv 2) rfl)) (a_val (ve (n_v 3 (pv 3) rfl)) a_nil))))))))
    (ss_one (s_ret (ve (n_v 2 (pv 2) rfl))))))) ?_ rfl ?_
  · rintro as Q ⟨xs, b, rfl, _⟩; rfl
  · rintro as Q ⟨xs, b, rfl, hn, hx, hd, hw, b0, hb, q⟩
    simp
    refine for_inv (fun i ρ => ∃ (f : List Int) (x3 x4 : Option SV), Fk b (xs.take i) f ∧ ρ = [some (.dat (.lst (xs.map Fc.d))), some (.dat (.int b)), some (.dat (dI f)), x3, x4]) ⟨[b], none, none, ⟨rfl, by simpa using b0, by simp [nrm, wts]⟩, rfl⟩ ?_ ?_
    · rintro i d ρ hd2 ⟨f, x3, x4, hf, rfl⟩
      obtain ⟨x, ex, rfl⟩ : ∃ x, xs[i]? = some x ∧ d = x.d := by
        rw [List.getElem?_map] at hd2
        cases e : xs[i]? with
        | none => rw [e] at hd2; cases hd2
        | some x => rw [e] at hd2; exact ⟨x, rfl, (by simpa using hd2.symm)⟩
      have xm := List.mem_of_getElem? ex
      have xo := hx x xm
      have st := hf.step xo
      have et : xs.take (i + 1) = xs.take i ++ [x] := by rw [List.take_add_one, ex]; rfl
      rw [← et] at st
      have w1 := wts_take xs i hx
      have dt := degs_take xs i
      have pl := hf.pl (xs := xs.take i) hb (by omega) (by omega)
      simp [Fc.d, cProdL]
      have pn := pl.n
      refine ⟨by omega, by have := xo.2.1; omega, fun c m => (pl.b.sm (k := 20) (by decide) c m).mono (by decide), fun c m => (xo.2.2.1.sm (k := 20) (by decide) c m).mono (by decide), _, st, by rw [oI_data]⟩
    · rintro ρ ⟨f, x3, x4, hf, rfl⟩
      rw [List.length_map, List.take_length] at hf
      simp
      exact q f (hf.pl hb hd hw) hf.f0
theorem b__law_pv_multiplied {k : Nat} {C : Ctr} (G : FnG P w K mg base CX0 k f fd (["factors", "by"] : List Str) (spD K C)) (F : FunD K "_law_pv_multiplied" "_law_pv_multiplied" (defArgs s__law_pv_multiplied) (defBody s__law_pv_multiplied) (defScope s__law_pv_multiplied) [] [] f fd) (hm : mg "_law_pv_multiplied" = some (.ref f)) : Hs P w K mg base "_law_pv_multiplied" (["factors", "by"] : List Str) k C := by
  refine hsF G hm F ?_
  intro kV doc pm an cdv ct us hl
  match us, hl with
  | [u0, u1], _ => rfl

theorem g__law_pv_checked (F : FunD K "_law_pv_checked" "_law_pv_checked" (defArgs s__law_pv_checked) (defBody s__law_pv_checked) (defScope s__law_pv_checked) [] [] f fd)  (h__law_pv_poly : Hs P w K mg base "_law_pv_poly" ["sack", "size"] 2 cPoly) (h__law_pv_coin : Hs P w K mg base "_law_pv_coin" ["sack", "many"] 1 cCoin) (h__law_pv_multiplied : Hs P w K mg base "_law_pv_multiplied" ["factors", "by"] 3 cMult) (h__law_pv_factors : Hs P w K mg base "_law_pv_factors" ["sack", "degree"] 6 cFactors) (h__law_pv_chain : Hs P w K mg base "_law_pv_chain" ["poly"] 5 cRow) (h__law_pv_right : Hs P w K mg base "_law_pv_right" ["found", "due"] 10 cRight) (h_row : Hs P w K mg base "row" ["one"] 5 cRow) (h__law_pv_ratio : Hs P w K mg base "_law_pv_ratio" ["up", "down"] 2 cRatio) (h__law_pv_any_ratio : Hs P w K mg base "_law_pv_any_ratio" ["sack"] 3 cAnyR) (h__law_pv_flips : Hs P w K mg base "_law_pv_flips" ["chain", "end"] 6 cTurns) (h_turns : Hs P w K mg base "turns" ["told", "spot"] 5 cTurns) (k_row_0_0 : HsK P w K mg base "row" ["one"] 5 cRow ["one"] 0 [0]) (k_turns_0_1_0 : HsK P w K mg base "turns" ["told", "spot"] 5 cTurns ["spot", "told"] 0 [1, 0]) (m_repr : mg "repr" = none) (m_range : mg "range" = none) :
    FnG P w K mg base CX0 (11) f fd (["sack"] : List Str) (spD K cChecked) := by
  have S : FnScope (["sack", "left", "kept", "due", "some", "chain", "end", "flips", "turn"] : List Str) (["sack"] : List Str) (defScope s__law_pv_checked) := ⟨rfl, rfl, rfl, by decide +kernel, rfl, by decide +kernel, by decide +kernel⟩
  have nd : (["sack", "left", "kept", "due", "some", "chain", "end", "flips", "turn"] : List Str).Nodup := by decide +kernel
  refine okF (k := 10) [0] F S (fun cdv A outer s H E hr => (ss_cons (s_set (i := 1) nd (ve (ev (e_call h__law_pv_poly (hr.mono (by omega)) (a_ref 0 (pv 0) rfl (a_val (ve c_int) a_nil))))))
    (ss_cons (s_if (t_w (w_or (q_eq hr.r (n_o 1 (pv 1) rfl) (vo (ev (e_lst g_nil)))) (w_or1 (q_eq hr.r (vo (ev (e_call h__law_pv_coin (hr.mono (by omega)) (a_ref 0 (pv 0) rfl (a_val (ve c_int) a_nil))))) (vo c_int))))) (ss_one (s_set (i := 1) nd (ve (ev (e_call h__law_pv_multiplied (hr.mono (by omega)) (a_val (ve (ev (e_call h__law_pv_factors (hr.mono (by omega)) (a_ref 0 (pv 0) rfl (a_val (ve c_int) a_nil))))) (a_val (ve (v_ix (vo (ev (e_lst (g_cons (ve c_int) (g_cons (ve (p_neg (vo c_int))) (g_cons (ve c_int) (g_cons (ve (p_neg (vo c_int))) g_nil))))))) (vo (ev (e_call h__law_pv_coin (hr.mono (by omega)) (a_ref 0 (pv 0) rfl (a_val (ve c_int) a_nil))))))) a_nil))))))) ss_nil)
    (ss_cons (s_par (i := 2) (j := 3) rfl nd (g_cons (ve (p_repr hr m_repr (os_cons (n_o 1 (pv 1) rfl) os_nil))) (g_cons (ve (ev (e_call h__law_pv_chain (hr.mono (by omega)) (a_val (ve (n_v 1 (pv 1) rfl)) a_nil)))) g_nil)))
    (ss_cons (s_if (t_w (w_or (t_not (t_val (ev (e_call h__law_pv_right (hr.mono (by omega)) (a_val (e_call h_row (hr.mono (by omega)) (a_val (ve (n_v 1 (pv 1) rfl)) a_nil)) (a_val (ve (n_v 3 (pv 3) rfl)) a_nil)))))) (w_or1 (t_not (t_val (ev (e_call h__law_pv_right (hr.mono (by omega)) (a_val (e_callk0 k_row_0_0 (hr.mono (by omega)) (k_val (n_v 1 (pv 1) rfl) k_nil)) (a_val (ve (ev (e_call h__law_pv_chain (hr.mono (by omega)) (a_val (ve (n_v 1 (pv 1) rfl)) a_nil)))) a_nil))))))))) (ss_one (s_ret (ve c_bl))) ss_nil)
    (ss_cons (s_if (t_w (w_or (t_not (t_val (ev (e_call h__law_pv_right (hr.mono (by omega)) (a_val (e_call h_row (hr.mono (by omega)) (a_val (ve (n_v 1 (pv 1) rfl)) a_nil)) (a_val (ve (ev (e_call h__law_pv_chain (hr.mono (by omega)) (a_val (ve (n_v 1 (pv 1) rfl)) a_nil)))) a_nil)))))) (w_or1 (q_neS (vo (p_repr hr m_repr (os_cons (n_o 1 (pv 1) rfl) os_nil))) (n_o 2 (pv 2) rfl))))) (ss_one (s_ret (ve c_bl))) ss_nil)
    (ss_cons (s_lcS (i := 4) (own := [("turn", 8)]) rfl nd (i_rg1 m_range (os_cons (vo (ev (e_call h__law_pv_coin (hr.mono (by omega)) (a_ref 0 (pv 0) rfl (a_val (ve c_int) a_nil))))) os_nil)) rfl (fun _ _ _ _ _ => (t_name (i := 8) nd)) (fun _ _ _ _ _ => ifs_nil) (fun _ _ _ _ _ => (e_call h__law_pv_poly (hr.mono (by omega)) (a_ref 0 (pv 0) rfl (a_val (ve c_int) a_nil)))))
    (ss_cons (s_for PassesOwn.never rfl (i_lt (v_tup (g_cons (e_call h_row (hr.mono (by omega)) (a_val (ve (n_v 1 (pv 1) rfl)) a_nil)) (g_cons (ve (n_v 4 (pv 4) rfl)) (g_cons (e_lst g_nil) (g_cons (e_lst (g_cons (ve (n_v 1 (pv 1) rfl)) g_nil)) g_nil)))))) (t_name (i := 5) nd) (ss_cons (s_set (i := 2) nd (ve (p_repr hr m_repr (os_cons (n_o 5 (pv 5) rfl) os_nil))))
    (ss_cons (s_for PassesOwn.never rfl (i_lt (v_tup (g_cons (ve (v_tup (g_cons (ve c_int) (g_cons (ve c_int) g_nil)))) (g_cons (ve c_non) (g_cons (e_call h__law_pv_any_ratio (hr.mono (by omega)) (a_ref 0 (pv 0) rfl a_nil)) (g_cons (e_call h__law_pv_ratio (hr.mono (by omega)) (a_val (ve (p_sub (vo (ev (e_call h__law_pv_coin (hr.mono (by omega)) (a_ref 0 (pv 0) rfl (a_val (ve c_int) a_nil))))) (vo c_int))) (a_val (ve c_int) a_nil))) g_nil)))))) (t_name (i := 6) nd) (ss_cons (s_set (i := 7) nd (ve (ev (e_call h__law_pv_flips (hr.mono (by omega)) (a_val (ve (n_v 5 (pv 5) rfl)) (a_val (ve (n_v 6 (pv 6) rfl)) a_nil))))))
    (ss_one (s_if (q_neS (vo (p_repr hr m_repr (os_cons (vo (ev (e_lst (g_cons (e_call h_turns (hr.mono (by omega)) (a_val (ve (n_v 5 (pv 5) rfl)) (a_val (ve (n_v 6 (pv 6) rfl)) a_nil))) (g_cons (e_callk0 k_turns_0_1_0 (hr.mono (by omega)) (k_val (n_v 6 (pv 6) rfl) (k_val (n_v 5 (pv 5) rfl) k_nil))) g_nil))))) os_nil))) (vo (p_repr hr m_repr (os_cons (vo (ev (e_lst (g_cons (ve (n_v 7 (pv 7) rfl)) (g_cons (ve (n_v 7 (pv 7) rfl)) g_nil))))) os_nil)))) (ss_one (s_ret (ve c_bl))) ss_nil))))
    (ss_one (s_if (q_neS (vo (p_repr hr m_repr (os_cons (n_o 5 (pv 5) rfl) os_nil))) (n_o 2 (pv 2) rfl)) (ss_one (s_ret (ve c_bl))) ss_nil)))))
    (ss_one (s_ret (ve c_bl))))))))))) ?_ rfl ?_
  · rintro as Q ⟨s, c, rfl, _⟩; rfl
  · rintro as Q ⟨s, c, rfl, hs, hc, q⟩
    refine cut (fun ρ => ∃ (l : List Int) (s1 : SV) (c1 : Nat), PL l ∧ Sk c1 s1 ∧ c1 ≤ c + 11 ∧ ρ = [some s1, some (.dat (dI l)), none, none, none, none, none, none, none]) ?_ fun g hg => ?_
    rotate_left
    · simp [cPoly, oI_data]
      exact ⟨c, 8, rfl, hs, by omega, by omega, fun l s1 c1 a1 a2 a3 k1 e1 => hg _ ⟨l, s1, c1, ⟨a1, a2, a3⟩, k1, by omega, rfl⟩⟩
    rintro ρ ⟨l, s1, c1, hl, k1, e1, rfl⟩
    refine cut (fun ρ => ∃ (l : List Int) (s1 : SV) (c1 : Nat), PL l ∧ l ≠ [] ∧ Sk c1 s1 ∧ c1 ≤ c + 120 ∧ ρ = [some s1, some (.dat (dI l)), none, none, none, none, none, none, none]) ?_ fun g hg => ?_
    rotate_left
    · refine if_cut (fun ρ => ∃ (s2 : SV) (c2 : Nat), Sk c2 s2 ∧ c2 ≤ c + 12 ∧ ρ = [some s2, some (.dat (dI l)), none, none, none, none, none, none, none]) (fun ρ => l ≠ [] ∧ ∃ (s2 : SV) (c2 : Nat), Sk c2 s2 ∧ c2 ≤ c + 12 ∧ ρ = [some s2, some (.dat (dI l)), none, none, none, none, none, none, none]) (fun P N hP hN => ?_) ?_ ?_
      · have e0 : eqD (dI l) (.lst []) = decide (l = []) := by simp [dI]
        simp [cCoin, e0]
        refine ⟨okD_lint, ?_⟩
        by_cases z : l = []
        · rw [if_pos z]
          exact hP _ ⟨s1, c1, k1, by omega, rfl⟩
        · rw [if_neg z]
          refine ⟨c1, k1, by omega, smc, fun n s2 c2 n0 n1 k2 e2 => ?_⟩
          by_cases y : n = 0
          · rw [if_pos y]
            exact hP _ ⟨s2, c2, k2, by omega, rfl⟩
          · rw [if_neg y]
            exact hN _ ⟨z, s2, c2, k2, by omega, rfl⟩
      · rintro ρ ⟨s2, c2, k2, e2, rfl⟩
        simp [cFactors]
        refine ⟨c2, k2, by omega, fun xs s3 c3 x1 x2 x3 k3 e3 => ?_⟩
        simp [cCoin]
        refine ⟨c3, k3, by omega, smc, fun n s4 c4 n0 n1 k4 e4 => ?_⟩
        have xl : xs.length ≤ 7 := Nat.le_trans (degs_len x1) x2
        obtain ⟨b, eb, b0, b3⟩ : ∃ b : Int, atI [DD.int 1, DD.int (-1), DD.int 2, DD.int (-3)] n = some (.int b) ∧ b ≠ 0 ∧ b.natAbs ≤ 3 := by
          have : n = 0 ∨ n = 1 ∨ n = 2 ∨ n = 3 := by omega
          rcases this with rfl | rfl | rfl | rfl
          · exact ⟨1, rfl, by decide, by decide⟩
          · exact ⟨-1, rfl, by decide, by decide⟩
          · exact ⟨2, rfl, by decide, by decide⟩
          · exact ⟨-3, rfl, by decide, by decide⟩
        refine ⟨_, eb, ?_⟩
        refine ⟨xs, b, by simp [datas_fc], by omega, x1, x2, x3, b0, b3, fun p hp p0 => ?_⟩
        simp
        exact hg _ ⟨p, s4, c4, hp, p0, k4, by omega, rfl⟩
      · rintro ρ ⟨z, s2, c2, k2, e2, rfl⟩
        exact hg _ ⟨l, s2, c2, hl, z, k2, by omega, rfl⟩
    rintro ρ ⟨l, s1, c1, hl, l0, k1, e1, rfl⟩
    have rowE : ∀ p ∈ rowOf l, Ev p := fun p m => ((row_mb l0 hl.n hl.b hl.z).1 p m).ev
    have rowN := (row_mb l0 hl.n hl.b hl.z).2
    have okl : okR (dI l) := (Rz.ints fun c m => (hl.ev.sm c m).mono (by decide)).ok (by have := Nat.mul_le_mul_right 1923 hl.n; omega) (by decide)
    refine cut (fun ρ => ∃ kept : Str, kept = shD (dI l) ∧ ρ = [some s1, some (.dat (dI l)), some (.dat (.str kept)), some (.dat (dL (rowOf l))), none, none, none, none, none]) ?_ fun g hg => ?_
    rotate_left
    · simp [cRow, oL_data]
      exact ⟨okl, l0, hl, hg _ ⟨_, rfl, rfl⟩⟩
    rintro ρ ⟨kept, hk, rfl⟩
    refine cut (fun ρ => ρ = [some s1, some (.dat (dI l)), some (.dat (.str kept)), some (.dat (dL (rowOf l))), none, none, none, none, none]) ?_ fun g hg => ?_
    rotate_left
    · simp [cRow, oL_data]
      refine ⟨l0, hl, row_go l0 hl fun t => ?_⟩
      simp
      refine ⟨l0, hl, l0, hl, row_go l0 hl fun t => ?_⟩
      simp
      exact hg _ rfl
    rintro ρ rfl
    refine cut (fun ρ => ρ = [some s1, some (.dat (dI l)), some (.dat (.str kept)), some (.dat (dL (rowOf l))), none, none, none, none, none]) ?_ fun g hg => ?_
    rotate_left
    · simp [cRow, oL_data]
      refine ⟨l0, hl, l0, hl, row_go l0 hl fun t => ?_⟩
      simp [okl, hk]
      exact hg _ (by rw [hk])
    rintro ρ rfl
    refine cut (fun ρ => ∃ (L : List (List Int)) (s1 : SV) (c1 : Nat) (t : Option SV), (∀ p ∈ L, PL p) ∧ L.length ≤ 6 ∧ Sk c1 s1 ∧ c1 ≤ c + 170 ∧ ρ = [some s1, some (.dat (dI l)), some (.dat (.str kept)), some (.dat (dL (rowOf l))), some (.dat (dL L)), none, none, none, t]) ?_ fun g hg => ?_
    rotate_left
    · simp [cCoin]
      refine ⟨c1, k1, by omega, smc, fun n s2 c2 n0 n1 k2 e2 => ⟨by omega, by omega, ?_⟩⟩
      obtain ⟨m, rfl⟩ := Int.eq_ofNat_of_zero_le n0
      refine lc_inv (fun i acc ρ => ∃ (s3 : SV) (c3 : Nat) (L : List (List Int)), Sk c3 s3 ∧ c3 ≤ c2 + 8 * i ∧ ρ = [some s3, some (.dat (dI l)), some (.dat (.str kept)), some (.dat (dL (rowOf l))), none, none, none, none, none] ∧ acc = L.map oI ∧ L.length = i ∧ ∀ p ∈ L, PL p) ⟨s2, c2, [], k2, by omega, rfl, rfl, rfl, fun _ m => nomatch m⟩ ?_ ?_
      · rintro i d acc ρ hd ⟨s3, c3, L, k3, e3, rfl, rfl, hL, hp⟩
        obtain ⟨rfl, hi⟩ := rg_get hd
        simp only [Int.toNat_natCast] at hi
        refine ⟨by simp [plainB], ?_⟩
        simp [wipeR, unwipe, cPoly]
        refine ⟨c3, 4, rfl, k3, by omega, by omega, fun p s4 c4 a1 a2 a3 k4 e4 => ⟨by omega, s4, c4, k4, by omega, rfl, L ++ [p], by simp, by simp [hL], fun y m => ?_⟩⟩
        rcases List.mem_append.mp m with m | m
        · exact hp y m
        · have : y = p := by simpa using m
          subst this
          exact ⟨by omega, a2, a3⟩
      · rintro acc ρ ⟨s3, c3, L, k3, e3, rfl, rfl, hL, hp⟩
        have hL2 : L.length = m := by simpa [rgD] using hL
        refine hg _ ⟨L, s3, c3, none, hp, by omega, k3, by simp [rgD] at e3; omega, ?_⟩
        rw [show (SV.own (L.map oI)).data = dL L from oL_data L]
        rfl
    rintro ρ ⟨L, s2, c2, t, hL, nL, k2, e2, rfl⟩
    have LE : ∀ p ∈ L, Ev p := fun p m => (hL p m).ev
    simp [cRow, oL_data]
    refine ⟨l0, hl, ?_⟩
    have four : ∀ d ∈ [dL (rowOf l), dL L, DD.lst [], DD.lst [dI l]], ∃ ps : List (List Int), d = dL ps ∧ ps.length ≤ 8 ∧ ∀ p ∈ ps, Ev p := fun d m => by
      simp only [List.mem_cons, List.not_mem_nil, or_false] at m
      rcases m with rfl | rfl | rfl | rfl
      · exact ⟨_, rfl, rowN, rowE⟩
      · exact ⟨_, rfl, by omega, LE⟩
      · exact ⟨[], rfl, by simp, fun _ m => nomatch m⟩
      · exact ⟨[l], rfl, by simp, fun p m => by
          have : p = l := by simpa using m
          subst this
          exact hl.ev⟩
    refine for_inv (fun i ρ => ∃ (s3 : SV) (c3 : Nat) (x2 x5 x6 x7 : Option SV), Sk c3 s3 ∧ c3 ≤ c + 170 + 5 * i ∧ ρ = [some s3, some (.dat (dI l)), x2, some (.dat (dL (rowOf l))), some (.dat (dL L)), x5, x6, x7, t]) ⟨s2, c2, _, _, _, _, k2, by omega, rfl⟩ ?_ ?_
    · rintro i d ρ hd ⟨s3, c3, x2, x5, x6, x7, k3, e3, rfl⟩
      have hi : i < 4 := by
        have := (List.getElem?_eq_some_iff.mp hd).1
        simpa using this
      obtain ⟨ps, rfl, np, hp⟩ := four d (List.mem_of_getElem? hd)
      have okp : okR (dL ps) := okR_dL (by omega) hp
      refine ⟨by simp, halt fun g hg => ?_⟩
      refine cut (fun ρ => ρ = [some s3, some (.dat (dI l)), some (.dat (.str (shD (dL ps)))), some (.dat (dL (rowOf l))), some (.dat (dL L)), some (.dat (dL ps)), x6, x7, t]) ?_ fun g2 hg2 => ?_
      rotate_left
      · simp
        exact ⟨okp, hg2 _ rfl⟩
      rintro ρ rfl
      refine cut (fun ρ => ∃ (s4 : SV) (c4 : Nat) (x6 x7 : Option SV), Sk c4 s4 ∧ c4 ≤ c + 170 + 5 * (i + 1) ∧ ρ = [some s4, some (.dat (dI l)), some (.dat (.str (shD (dL ps)))), some (.dat (dL (rowOf l))), some (.dat (dL L)), some (.dat (dL ps)), x6, x7, t]) ?_ fun g2 hg2 => ?_
      · rintro ρ ⟨s4, c4, x6, x7, k4, e4, rfl⟩
        simp [okp]
        exact hg _ ⟨s4, c4, _, _, x6, x7, k4, e4, rfl⟩
      simp [cAnyR]
      refine ⟨c3, k3, by omega, fun y s4 c4 hy k4 e4 => ?_⟩
      simp [cCoin]
      refine ⟨c4, k4, by omega, smc, fun n s5 c5 n0 n1 k5 e5 => ?_⟩
      simp [cRatio]
      refine ⟨smc, ?_⟩
      have hz : Qb 52 (Rat.divInt (n - 6) 2) := Qb.of (sm_of (b := 7) (by omega) (by omega)) smc (by decide)
      have ends : ∀ d ∈ [DD.tup [DD.int 0, DD.int 1], DD.non, rT y, rT (Rat.divInt (n - 6) 2)], ∃ sp : Option Rat, d = dS sp ∧ ∀ q, sp = some q → Qb 52 q := fun d m => by
        simp only [List.mem_cons, List.not_mem_nil, or_false] at m
        rcases m with rfl | rfl | rfl | rfl
        · exact ⟨some 0, rfl, fun q e => by
            cases e
            exact ⟨smc, smc⟩⟩
        · exact ⟨none, rfl, fun q e => nomatch e⟩
        · exact ⟨some y, rfl, fun q e => by cases e; exact hy⟩
        · exact ⟨some _, rfl, fun q e => by cases e; exact hz⟩
      refine for_inv (fun j ρ => ∃ (x6 x7 : Option SV), ρ = [some s5, some (.dat (dI l)), some (.dat (.str (shD (dL ps)))), some (.dat (dL (rowOf l))), some (.dat (dL L)), some (.dat (dL ps)), x6, x7, t]) ⟨x6, x7, rfl⟩ ?_ ?_
      · rintro j d ρ hd ⟨x6, x7, rfl⟩
        obtain ⟨sp, rfl, hsp⟩ := ends d (List.mem_of_getElem? hd)
        refine ⟨by simp, halt fun g3 hg3 => ?_⟩
        have tl : turnsP ps sp ≤ 8 := by
          unfold turnsP
          refine Nat.le_trans (tk_le _ _) ?_
          have := List.length_filter_le (fun i : Int => decide (i ≠ 0)) (ps.map fun p => signE p sp)
          rw [List.length_map] at this
          exact Nat.le_trans this np
        have okt : okR (.lst [.int (turnsP ps sp), .int (turnsP ps sp)]) := by
          refine (Rz.lst (n := 1921) (D := 0) fun d m => ?_).ok (by simp) (by decide)
          have : d = .int (turnsP ps sp) := by simpa using m
          subst this
          exact Rz.int ((sm_of (k := 8) (b := 8) (by omega) (by omega)).mono (by decide))
        refine cut (fun ρ => ρ = [some s5, some (.dat (dI l)), some (.dat (.str (shD (dL ps)))), some (.dat (dL (rowOf l))), some (.dat (dL L)), some (.dat (dL ps)), some (.dat (dS sp)), some (.dat (.int (turnsP ps sp))), t]) ?_ fun g4 hg4 => ?_
        rotate_left
        · simp [cTurns]
          exact ⟨ps, rfl, sp, rfl, by omega, hp, hsp, hg4 _ rfl⟩
        rintro ρ rfl
        simp [cTurns]
        exact ⟨ps, rfl, sp, rfl, by omega, hp, hsp, ps, rfl, sp, rfl, by omega, hp, hsp, okt, okt, .inl ⟨rfl, hg3 _ ⟨_, _, rfl⟩⟩⟩
      · rintro ρ ⟨x6, x7, rfl⟩
        exact hg2 _ ⟨s5, c5, x6, x7, k5, by omega, rfl⟩
    · rintro ρ ⟨s3, c3, x2, x5, x6, x7, k3, e3, rfl⟩
      simp
      exact q s3 c3 k3 (by simp at e3; omega)
theorem b__law_pv_checked {k : Nat} {C : Ctr} (G : FnG P w K mg base CX0 k f fd (["sack"] : List Str) (spD K C)) (F : FunD K "_law_pv_checked" "_law_pv_checked" (defArgs s__law_pv_checked) (defBody s__law_pv_checked) (defScope s__law_pv_checked) [] [] f fd) (hm : mg "_law_pv_checked" = some (.ref f)) : Hs P w K mg base "_law_pv_checked" (["sack"] : List Str) k C := by
  refine hsF G hm F ?_
  intro kV doc pm an cdv ct us hl
  match us, hl with
  | [u0], _ => rfl

theorem g_law (F : FunD K "law" "law" (defArgs s_law) (defBody s_law) (defScope s_law) [] [] f fd)  (h__law_pv_checked : Hs P w K mg base "_law_pv_checked" ["sack"] 11 cChecked) (h__law_pv_sack : Hs P w K mg base "_law_pv_sack" ["script", "rank"] 1 cSack) (m_range : mg "range" = none) (m_max : mg "max" = none) (m_min : mg "min" = none) (m_len : mg "len" = none) :
    FnG P w K mg base CX0 (12) f fd (["script"] : List Str) (spD K cLawS) := by
  have S : FnScope (["script", "rank"] : List Str) (["script"] : List Str) (defScope s_law) := ⟨rfl, rfl, rfl, by decide +kernel, rfl, by decide +kernel, by decide +kernel⟩
  have nd : (["script", "rank"] : List Str).Nodup := by decide +kernel
  refine okF (k := 11) [] F S (fun cdv A outer s H E hr => (ss_cons (s_for PassesOwn.never rfl (i_rg1 m_range (os_cons (vo (p_max rfl m_max (os_cons (vo c_int) (os_cons (vo (p_min rfl m_min (os_cons (vo c_int) (os_cons (vo (p_len m_len (os_cons (n_o 0 (pv 0) rfl) os_nil))) os_nil)))) os_nil)))) os_nil)) (t_name (i := 1) nd) (ss_one (s_if (t_not (t_val (ev (e_call h__law_pv_checked (hr.mono (by omega)) (a_val (e_call h__law_pv_sack (hr.mono (by omega)) (a_val (ve (n_v 0 (pv 0) rfl)) (a_val (ve (n_v 1 (pv 1) rfl)) a_nil))) a_nil))))) (ss_one (s_ret (ve c_bl))) ss_nil)))
    (ss_one (s_ret (ve c_bl))))) ?_ rfl ?_
  · rintro as Q ⟨ns, b, rfl, _⟩; rfl
  · rintro as Q ⟨ns, b, rfl, hn, hl, q⟩
    have en : (if (1 : Int) < (if (ns.length : Int) < 4 then (ns.length : Int) else 4) then (if (ns.length : Int) < 4 then (ns.length : Int) else 4) else 1) = ((max 1 (min 4 ns.length) : Nat) : Int) := by split <;> split <;> omega
    have walk : ∀ (D : DEnds), (∀ x1, D.nx [some (.dat (scr b ns)), x1]) → forB (gSet [] 1)
      (fIf (fNot (fTst (eV (fCall cChecked (aVal (fCall cSack (aVal (vE (fVar 0)) (aVal (vE (fVar 1)) aNil))) aNil)))))
        (fRet (vE (fC (DD.bl false)))) fNext)
      (rgD 0 1 (max 1 (min 4 ns.length))) D [some (.dat (scr b ns)), none] := by
      intro D hD
      refine for_inv (fun i ρ => ∃ x1 : Option SV, ρ = [some (.dat (scr b ns)), x1]) ⟨none, rfl⟩ ?_ ?_
      · rintro i d ρ hd ⟨x1, rfl⟩
        obtain ⟨rfl, hi⟩ := rg_get hd
        simp [cSack]
        refine ⟨ns, i, (by cases b <;> simp), hn, by omega, fun s hs => ?_⟩
        simp [cChecked]
        exact ⟨0, hs, by omega⟩
      · rintro ρ ⟨x1, rfl⟩
        exact hD x1
    cases b <;> simp [en] <;> refine ⟨by omega, walk _ fun x1 => ?_⟩ <;> simpa using q
theorem b_law {k : Nat} {C : Ctr} (G : FnG P w K mg base CX0 k f fd (["script"] : List Str) (spD K C)) (F : FunD K "law" "law" (defArgs s_law) (defBody s_law) (defScope s_law) [] [] f fd) (hm : mg "law" = some (.ref f)) : Hs P w K mg base "law" (["script"] : List Str) k C := by
  refine hsF G hm F ?_
  intro kV doc pm an cdv ct us hl
  match us, hl with
  | [u0], _ => rfl

theorem bk_row_0_0 (G : FnG P w K mg base CX0 5 f fd (["one"] : List Str) (spD K cRow)) (F : FunD K "row" "row" (defArgs s_row) (defBody s_row) (defScope s_row) [] [] f fd) (hm : mg "row" = some (.ref f)) : HsK P w K mg base "row" (["one"] : List Str) 5 cRow ["one"] 0 [0] := by
  refine hsK G hm F (by simp) ?_
  intro kV doc pm an cdv ct us ws hl hm
  match us, ws, hl, hm with
  | [], [w0], _, _ => rfl

theorem bk_turns_0_1_0 (G : FnG P w K mg base CX0 5 f fd (["told", "spot"] : List Str) (spD K cTurns)) (F : FunD K "turns" "turns" (defArgs s_turns) (defBody s_turns) (defScope s_turns) [] [] f fd) (hm : mg "turns" = some (.ref f)) : HsK P w K mg base "turns" (["told", "spot"] : List Str) 5 cTurns ["spot", "told"] 0 [1, 0] := by
  refine hsK G hm F (by simp) ?_
  intro kV doc pm an cdv ct us ws hl hm
  match us, ws, hl, hm with
  | [], [w0, w1], _, _ => rfl

end
def d_divisor : He.DefD := ⟨("divisor", none), "divisor", "divisor", defArgs s_divisor, defBody s_divisor, defScope s_divisor, [], []⟩
def d_is_fraction : He.DefD := ⟨("is_fraction", none), "is_fraction", "is_fraction", defArgs s_is_fraction, defBody s_is_fraction, defScope s_is_fraction, [], []⟩
def d_check_fraction : He.DefD := ⟨("check_fraction", none), "check_fraction", "check_fraction", defArgs s_check_fraction, defBody s_check_fraction, defScope s_check_fraction, [], []⟩
def d_trimmed : He.DefD := ⟨("trimmed", none), "trimmed", "trimmed", defArgs s_trimmed, defBody s_trimmed, defScope s_trimmed, [], []⟩
def d_checked : He.DefD := ⟨("checked", none), "checked", "checked", defArgs s_checked, defBody s_checked, defScope s_checked, [], []⟩
def d_checked_some : He.DefD := ⟨("checked_some", none), "checked_some", "checked_some", defArgs s_checked_some, defBody s_checked_some, defScope s_checked_some, [], []⟩
def d_slope : He.DefD := ⟨("slope", none), "slope", "slope", defArgs s_slope, defBody s_slope, defScope s_slope, [], []⟩
def d_primitive : He.DefD := ⟨("primitive", none), "primitive", "primitive", defArgs s_primitive, defBody s_primitive, defScope s_primitive, [], []⟩
def d_rest_of : He.DefD := ⟨("rest_of", none), "rest_of", "rest_of", defArgs s_rest_of, defBody s_rest_of, defScope s_rest_of, [], []⟩
def d_parts_at : He.DefD := ⟨("parts_at", none), "parts_at", "parts_at", defArgs s_parts_at, defBody s_parts_at, defScope s_parts_at, [], []⟩
def d_sign_at : He.DefD := ⟨("sign_at", none), "sign_at", "sign_at", defArgs s_sign_at, defBody s_sign_at, defScope s_sign_at, [], []⟩
def d_row_of : He.DefD := ⟨("row_of", none), "row_of", "row_of", defArgs s_row_of, defBody s_row_of, defScope s_row_of, [], []⟩
def d_end_sign : He.DefD := ⟨("end_sign", none), "end_sign", "end_sign", defArgs s_end_sign, defBody s_end_sign, defScope s_end_sign, [], []⟩
def d_turns_of : He.DefD := ⟨("turns_of", none), "turns_of", "turns_of", defArgs s_turns_of, defBody s_turns_of, defScope s_turns_of, [], []⟩
def d_row : He.DefD := ⟨("row", none), "row", "row", defArgs s_row, defBody s_row, defScope s_row, [], []⟩
def d_turns : He.DefD := ⟨("turns", none), "turns", "turns", defArgs s_turns, defBody s_turns, defScope s_turns, [], []⟩
def d__law_pv_sack : He.DefD := ⟨("_law_pv_sack", none), "_law_pv_sack", "_law_pv_sack", defArgs s__law_pv_sack, defBody s__law_pv_sack, defScope s__law_pv_sack, [], []⟩
def d__law_pv_coin : He.DefD := ⟨("_law_pv_coin", none), "_law_pv_coin", "_law_pv_coin", defArgs s__law_pv_coin, defBody s__law_pv_coin, defScope s__law_pv_coin, [], []⟩
def d__law_pv_shared : He.DefD := ⟨("_law_pv_shared", none), "_law_pv_shared", "_law_pv_shared", defArgs s__law_pv_shared, defBody s__law_pv_shared, defScope s__law_pv_shared, [], []⟩
def d__law_pv_ratio : He.DefD := ⟨("_law_pv_ratio", none), "_law_pv_ratio", "_law_pv_ratio", defArgs s__law_pv_ratio, defBody s__law_pv_ratio, defScope s__law_pv_ratio, [], []⟩
def d__law_pv_add : He.DefD := ⟨("_law_pv_add", none), "_law_pv_add", "_law_pv_add", defArgs s__law_pv_add, defBody s__law_pv_add, defScope s__law_pv_add, [], []⟩
def d__law_pv_mul : He.DefD := ⟨("_law_pv_mul", none), "_law_pv_mul", "_law_pv_mul", defArgs s__law_pv_mul, defBody s__law_pv_mul, defScope s__law_pv_mul, [], []⟩
def d__law_pv_trim : He.DefD := ⟨("_law_pv_trim", none), "_law_pv_trim", "_law_pv_trim", defArgs s__law_pv_trim, defBody s__law_pv_trim, defScope s__law_pv_trim, [], []⟩
def d__law_pv_product : He.DefD := ⟨("_law_pv_product", none), "_law_pv_product", "_law_pv_product", defArgs s__law_pv_product, defBody s__law_pv_product, defScope s__law_pv_product, [], []⟩
def d__law_pv_slope : He.DefD := ⟨("_law_pv_slope", none), "_law_pv_slope", "_law_pv_slope", defArgs s__law_pv_slope, defBody s__law_pv_slope, defScope s__law_pv_slope, [], []⟩
def d__law_pv_at : He.DefD := ⟨("_law_pv_at", none), "_law_pv_at", "_law_pv_at", defArgs s__law_pv_at, defBody s__law_pv_at, defScope s__law_pv_at, [], []⟩
def d__law_pv_thin : He.DefD := ⟨("_law_pv_thin", none), "_law_pv_thin", "_law_pv_thin", defArgs s__law_pv_thin, defBody s__law_pv_thin, defScope s__law_pv_thin, [], []⟩
def d__law_pv_left : He.DefD := ⟨("_law_pv_left", none), "_law_pv_left", "_law_pv_left", defArgs s__law_pv_left, defBody s__law_pv_left, defScope s__law_pv_left, [], []⟩
def d__law_pv_chain : He.DefD := ⟨("_law_pv_chain", none), "_law_pv_chain", "_law_pv_chain", defArgs s__law_pv_chain, defBody s__law_pv_chain, defScope s__law_pv_chain, [], []⟩
def d__law_pv_mark : He.DefD := ⟨("_law_pv_mark", none), "_law_pv_mark", "_law_pv_mark", defArgs s__law_pv_mark, defBody s__law_pv_mark, defScope s__law_pv_mark, [], []⟩
def d__law_pv_flips : He.DefD := ⟨("_law_pv_flips", none), "_law_pv_flips", "_law_pv_flips", defArgs s__law_pv_flips, defBody s__law_pv_flips, defScope s__law_pv_flips, [], []⟩
def d__law_pv_poly : He.DefD := ⟨("_law_pv_poly", none), "_law_pv_poly", "_law_pv_poly", defArgs s__law_pv_poly, defBody s__law_pv_poly, defScope s__law_pv_poly, [], []⟩
def d__law_pv_any_ratio : He.DefD := ⟨("_law_pv_any_ratio", none), "_law_pv_any_ratio", "_law_pv_any_ratio", defArgs s__law_pv_any_ratio, defBody s__law_pv_any_ratio, defScope s__law_pv_any_ratio, [], []⟩
def d__law_pv_copied : He.DefD := ⟨("_law_pv_copied", none), "_law_pv_copied", "_law_pv_copied", defArgs s__law_pv_copied, defBody s__law_pv_copied, defScope s__law_pv_copied, [], []⟩
def d__law_pv_lists : He.DefD := ⟨("_law_pv_lists", none), "_law_pv_lists", "_law_pv_lists", defArgs s__law_pv_lists, defBody s__law_pv_lists, defScope s__law_pv_lists, [], []⟩
def d__law_pv_marked : He.DefD := ⟨("_law_pv_marked", none), "_law_pv_marked", "_law_pv_marked", defArgs s__law_pv_marked, defBody s__law_pv_marked, defScope s__law_pv_marked, [], []⟩
def d__law_pv_right : He.DefD := ⟨("_law_pv_right", none), "_law_pv_right", "_law_pv_right", defArgs s__law_pv_right, defBody s__law_pv_right, defScope s__law_pv_right, [], []⟩
def d__law_pv_power : He.DefD := ⟨("_law_pv_power", none), "_law_pv_power", "_law_pv_power", defArgs s__law_pv_power, defBody s__law_pv_power, defScope s__law_pv_power, [], []⟩
def d__law_pv_whole_root : He.DefD := ⟨("_law_pv_whole_root", none), "_law_pv_whole_root", "_law_pv_whole_root", defArgs s__law_pv_whole_root, defBody s__law_pv_whole_root, defScope s__law_pv_whole_root, [], []⟩
def d__law_pv_number : He.DefD := ⟨("_law_pv_number", none), "_law_pv_number", "_law_pv_number", defArgs s__law_pv_number, defBody s__law_pv_number, defScope s__law_pv_number, [], []⟩
def d__law_pv_drawn_number : He.DefD := ⟨("_law_pv_drawn_number", none), "_law_pv_drawn_number", "_law_pv_drawn_number", defArgs s__law_pv_drawn_number, defBody s__law_pv_drawn_number, defScope s__law_pv_drawn_number, [], []⟩
def d__law_pv_base : He.DefD := ⟨("_law_pv_base", none), "_law_pv_base", "_law_pv_base", defArgs s__law_pv_base, defBody s__law_pv_base, defScope s__law_pv_base, [], []⟩
def d__law_pv_factor : He.DefD := ⟨("_law_pv_factor", none), "_law_pv_factor", "_law_pv_factor", defArgs s__law_pv_factor, defBody s__law_pv_factor, defScope s__law_pv_factor, [], []⟩
def d__law_pv_factors : He.DefD := ⟨("_law_pv_factors", none), "_law_pv_factors", "_law_pv_factors", defArgs s__law_pv_factors, defBody s__law_pv_factors, defScope s__law_pv_factors, [], []⟩
def d__law_pv_multiplied : He.DefD := ⟨("_law_pv_multiplied", none), "_law_pv_multiplied", "_law_pv_multiplied", defArgs s__law_pv_multiplied, defBody s__law_pv_multiplied, defScope s__law_pv_multiplied, [], []⟩
def d__law_pv_checked : He.DefD := ⟨("_law_pv_checked", none), "_law_pv_checked", "_law_pv_checked", defArgs s__law_pv_checked, defBody s__law_pv_checked, defScope s__law_pv_checked, [], []⟩
def d_law : He.DefD := ⟨("law", none), "law", "law", defArgs s_law, defBody s_law, defScope s_law, [], []⟩
def fn : List He.DefD := [d_divisor, d_is_fraction, d_check_fraction, d_trimmed, d_checked, d_checked_some, d_slope, d_primitive, d_rest_of, d_parts_at, d_sign_at, d_row_of, d_end_sign, d_turns_of, d_row, d_turns, d__law_pv_sack, d__law_pv_coin, d__law_pv_shared, d__law_pv_ratio, d__law_pv_add, d__law_pv_mul, d__law_pv_trim, d__law_pv_product, d__law_pv_slope, d__law_pv_at, d__law_pv_thin, d__law_pv_left, d__law_pv_chain, d__law_pv_mark, d__law_pv_flips, d__law_pv_poly, d__law_pv_any_ratio, d__law_pv_copied, d__law_pv_lists, d__law_pv_marked, d__law_pv_right, d__law_pv_power, d__law_pv_whole_root, d__law_pv_number, d__law_pv_drawn_number, d__law_pv_base, d__law_pv_factor, d__law_pv_factors, d__law_pv_multiplied, d__law_pv_checked, d_law]
def fa : List He.Fa := [.glo "divisor", .glo "is_fraction", .glo "check_fraction", .glo "trimmed", .glo "checked", .glo "checked_some", .glo "slope", .glo "primitive", .glo "rest_of", .glo "parts_at", .glo "sign_at", .glo "row_of", .glo "end_sign", .glo "turns_of", .glo "row", .glo "turns", .glo "_law_pv_sack", .glo "_law_pv_coin", .glo "_law_pv_shared", .glo "_law_pv_ratio", .glo "_law_pv_add", .glo "_law_pv_mul", .glo "_law_pv_trim", .glo "_law_pv_product", .glo "_law_pv_slope", .glo "_law_pv_at", .glo "_law_pv_thin", .glo "_law_pv_left", .glo "_law_pv_chain", .glo "_law_pv_mark", .glo "_law_pv_flips", .glo "_law_pv_poly", .glo "_law_pv_any_ratio", .glo "_law_pv_copied", .glo "_law_pv_lists", .glo "_law_pv_marked", .glo "_law_pv_right", .glo "_law_pv_power", .glo "_law_pv_whole_root", .glo "_law_pv_number", .glo "_law_pv_drawn_number", .glo "_law_pv_base", .glo "_law_pv_factor", .glo "_law_pv_factors", .glo "_law_pv_multiplied", .glo "_law_pv_checked", .glo "law", .glo "TankError", .glo "InvalidFraction", .glo "InvalidPolynomial", .free "ValueError", .free "abs", .free "enumerate", .free "int", .free "isinstance", .free "len", .free "list", .free "max", .free "min", .free "range", .free "repr", .free "sum", .free "tuple", .free "zip"]
abbrev R : PySem.W.OpenRow := PySem.W.OpenLaw.row PySem.Challenge.rw_valvelevels_k05_rows_of_rests_and_turns
abbrev hk : PySem.W.Hook := He.hookD 5 fa fn
def ob (s : PySem.W.SharedT) : He.AlD := He.obsDG 5 fa fn (HandSHeadRun.getT s)
theorem ob_eq (s : PySem.W.SharedT) : ob s = hk.obs s.abs := He.obsDG_eq (HandSHeadRun.getT_eq s)
def loose : List PySem.Str := (["TankError", "InvalidFraction", "InvalidPolynomial", "divisor", "is_fraction", "check_fraction", "trimmed", "checked", "checked_some", "slope", "primitive", "rest_of", "parts_at", "sign_at", "row_of", "end_sign", "turns_of", "row", "turns", "_law_pv_sack", "_law_pv_coin", "_law_pv_shared", "_law_pv_ratio", "_law_pv_add", "_law_pv_mul", "_law_pv_trim", "_law_pv_product", "_law_pv_slope", "_law_pv_at", "_law_pv_thin"] : List PySem.Str) ++ (["_law_pv_left", "_law_pv_chain", "_law_pv_mark", "_law_pv_flips", "_law_pv_poly", "_law_pv_any_ratio", "_law_pv_copied", "_law_pv_lists", "_law_pv_marked", "_law_pv_right", "_law_pv_power", "_law_pv_whole_root", "_law_pv_number", "_law_pv_drawn_number", "_law_pv_base", "_law_pv_factor", "_law_pv_factors", "_law_pv_multiplied", "_law_pv_checked"] : List PySem.Str)
theorem run (w : World) : HandSHeadRun.RunEq R (PySem.W.view R.prog [55]) hk ob 6000 loose w := by
  intro os
  kernel_rfl
theorem facts {P : Program} {w : World} {K : PySem.W.Frag} {h : Heap} {mg : Str → Option Value} {f : Addr} (X : K.In h) (G : h.Ns mainGlobals mg) (hfa : mg ("law" : Str) = some (.ref f)) (c : He.SaysD fa fn K) :
    ∃ fd : FuncData, (∀ (s : Shared) (v : Value), BindsTo s fd ⟨[v], []⟩ [("script", v)]) ∧ ∀ base : Heap, K.In base → base.Ns mainGlobals mg → FnG P w K mg base CX0 12 f fd (["script"] : List Str) (spD K cLawS) := by
  obtain ⟨fd_divisor, F_divisor⟩ := c.def_ 0 (d := d_divisor) rfl
  obtain ⟨fd_is_fraction, F_is_fraction⟩ := c.def_ 1 (d := d_is_fraction) rfl
  obtain ⟨fd_check_fraction, F_check_fraction⟩ := c.def_ 2 (d := d_check_fraction) rfl
  obtain ⟨fd_trimmed, F_trimmed⟩ := c.def_ 3 (d := d_trimmed) rfl
  obtain ⟨fd_checked, F_checked⟩ := c.def_ 4 (d := d_checked) rfl
  obtain ⟨fd_parts_at, F_parts_at⟩ := c.def_ 9 (d := d_parts_at) rfl
  obtain ⟨fd__law_pv_sack, F__law_pv_sack⟩ := c.def_ 16 (d := d__law_pv_sack) rfl
  obtain ⟨fd__law_pv_coin, F__law_pv_coin⟩ := c.def_ 17 (d := d__law_pv_coin) rfl
  obtain ⟨fd__law_pv_shared, F__law_pv_shared⟩ := c.def_ 18 (d := d__law_pv_shared) rfl
  obtain ⟨fd__law_pv_ratio, F__law_pv_ratio⟩ := c.def_ 19 (d := d__law_pv_ratio) rfl
  obtain ⟨fd__law_pv_add, F__law_pv_add⟩ := c.def_ 20 (d := d__law_pv_add) rfl
  obtain ⟨fd__law_pv_mul, F__law_pv_mul⟩ := c.def_ 21 (d := d__law_pv_mul) rfl
  obtain ⟨fd__law_pv_trim, F__law_pv_trim⟩ := c.def_ 22 (d := d__law_pv_trim) rfl
  obtain ⟨fd__law_pv_product, F__law_pv_product⟩ := c.def_ 23 (d := d__law_pv_product) rfl
  obtain ⟨fd__law_pv_at, F__law_pv_at⟩ := c.def_ 25 (d := d__law_pv_at) rfl
  obtain ⟨fd__law_pv_copied, F__law_pv_copied⟩ := c.def_ 33 (d := d__law_pv_copied) rfl
  obtain ⟨fd__law_pv_lists, F__law_pv_lists⟩ := c.def_ 34 (d := d__law_pv_lists) rfl
  obtain ⟨fd__law_pv_marked, F__law_pv_marked⟩ := c.def_ 35 (d := d__law_pv_marked) rfl
  obtain ⟨fd__law_pv_right, F__law_pv_right⟩ := c.def_ 36 (d := d__law_pv_right) rfl
  obtain ⟨fd__law_pv_poly, F__law_pv_poly⟩ := c.def_ 31 (d := d__law_pv_poly) rfl
  obtain ⟨fd__law_pv_any_ratio, F__law_pv_any_ratio⟩ := c.def_ 32 (d := d__law_pv_any_ratio) rfl
  obtain ⟨fd_checked_some, F_checked_some⟩ := c.def_ 5 (d := d_checked_some) rfl
  obtain ⟨fd_primitive, F_primitive⟩ := c.def_ 7 (d := d_primitive) rfl
  obtain ⟨fd__law_pv_thin, F__law_pv_thin⟩ := c.def_ 26 (d := d__law_pv_thin) rfl
  obtain ⟨fd_rest_of, F_rest_of⟩ := c.def_ 8 (d := d_rest_of) rfl
  obtain ⟨fd__law_pv_left, F__law_pv_left⟩ := c.def_ 27 (d := d__law_pv_left) rfl
  obtain ⟨fd_slope, F_slope⟩ := c.def_ 6 (d := d_slope) rfl
  obtain ⟨fd__law_pv_slope, F__law_pv_slope⟩ := c.def_ 24 (d := d__law_pv_slope) rfl
  obtain ⟨fd_sign_at, F_sign_at⟩ := c.def_ 10 (d := d_sign_at) rfl
  obtain ⟨fd_end_sign, F_end_sign⟩ := c.def_ 12 (d := d_end_sign) rfl
  obtain ⟨fd_row_of, F_row_of⟩ := c.def_ 11 (d := d_row_of) rfl
  obtain ⟨fd_row, F_row⟩ := c.def_ 14 (d := d_row) rfl
  obtain ⟨fd_turns_of, F_turns_of⟩ := c.def_ 13 (d := d_turns_of) rfl
  obtain ⟨fd_turns, F_turns⟩ := c.def_ 15 (d := d_turns) rfl
  obtain ⟨fd__law_pv_mark, F__law_pv_mark⟩ := c.def_ 29 (d := d__law_pv_mark) rfl
  obtain ⟨fd__law_pv_flips, F__law_pv_flips⟩ := c.def_ 30 (d := d__law_pv_flips) rfl
  obtain ⟨fd__law_pv_chain, F__law_pv_chain⟩ := c.def_ 28 (d := d__law_pv_chain) rfl
  obtain ⟨fd__law_pv_power, F__law_pv_power⟩ := c.def_ 37 (d := d__law_pv_power) rfl
  obtain ⟨fd__law_pv_whole_root, F__law_pv_whole_root⟩ := c.def_ 38 (d := d__law_pv_whole_root) rfl
  obtain ⟨fd__law_pv_number, F__law_pv_number⟩ := c.def_ 39 (d := d__law_pv_number) rfl
  obtain ⟨fd__law_pv_drawn_number, F__law_pv_drawn_number⟩ := c.def_ 40 (d := d__law_pv_drawn_number) rfl
  obtain ⟨fd__law_pv_base, F__law_pv_base⟩ := c.def_ 41 (d := d__law_pv_base) rfl
  obtain ⟨fd__law_pv_factor, F__law_pv_factor⟩ := c.def_ 42 (d := d__law_pv_factor) rfl
  obtain ⟨fd__law_pv_factors, F__law_pv_factors⟩ := c.def_ 43 (d := d__law_pv_factors) rfl
  obtain ⟨fd__law_pv_multiplied, F__law_pv_multiplied⟩ := c.def_ 44 (d := d__law_pv_multiplied) rfl
  obtain ⟨fd__law_pv_checked, F__law_pv_checked⟩ := c.def_ 45 (d := d__law_pv_checked) rfl
  obtain ⟨fd_law, F_law⟩ := c.def_ 46 (d := d_law) rfl
  have n_divisor := He.glo_ok X G (c.fact 0 (f := .glo "divisor") rfl)
  have n_is_fraction := He.glo_ok X G (c.fact 1 (f := .glo "is_fraction") rfl)
  have n_check_fraction := He.glo_ok X G (c.fact 2 (f := .glo "check_fraction") rfl)
  have n_trimmed := He.glo_ok X G (c.fact 3 (f := .glo "trimmed") rfl)
  have n_checked := He.glo_ok X G (c.fact 4 (f := .glo "checked") rfl)
  have n_parts_at := He.glo_ok X G (c.fact 9 (f := .glo "parts_at") rfl)
  have n__law_pv_sack := He.glo_ok X G (c.fact 16 (f := .glo "_law_pv_sack") rfl)
  have n__law_pv_coin := He.glo_ok X G (c.fact 17 (f := .glo "_law_pv_coin") rfl)
  have n__law_pv_shared := He.glo_ok X G (c.fact 18 (f := .glo "_law_pv_shared") rfl)
  have n__law_pv_ratio := He.glo_ok X G (c.fact 19 (f := .glo "_law_pv_ratio") rfl)
  have n__law_pv_add := He.glo_ok X G (c.fact 20 (f := .glo "_law_pv_add") rfl)
  have n__law_pv_mul := He.glo_ok X G (c.fact 21 (f := .glo "_law_pv_mul") rfl)
  have n__law_pv_trim := He.glo_ok X G (c.fact 22 (f := .glo "_law_pv_trim") rfl)
  have n__law_pv_product := He.glo_ok X G (c.fact 23 (f := .glo "_law_pv_product") rfl)
  have n__law_pv_at := He.glo_ok X G (c.fact 25 (f := .glo "_law_pv_at") rfl)
  have n__law_pv_copied := He.glo_ok X G (c.fact 33 (f := .glo "_law_pv_copied") rfl)
  have n__law_pv_lists := He.glo_ok X G (c.fact 34 (f := .glo "_law_pv_lists") rfl)
  have n__law_pv_marked := He.glo_ok X G (c.fact 35 (f := .glo "_law_pv_marked") rfl)
  have n__law_pv_right := He.glo_ok X G (c.fact 36 (f := .glo "_law_pv_right") rfl)
  have n__law_pv_poly := He.glo_ok X G (c.fact 31 (f := .glo "_law_pv_poly") rfl)
  have n__law_pv_any_ratio := He.glo_ok X G (c.fact 32 (f := .glo "_law_pv_any_ratio") rfl)
  have n_checked_some := He.glo_ok X G (c.fact 5 (f := .glo "checked_some") rfl)
  have n_primitive := He.glo_ok X G (c.fact 7 (f := .glo "primitive") rfl)
  have n__law_pv_thin := He.glo_ok X G (c.fact 26 (f := .glo "_law_pv_thin") rfl)
  have n_rest_of := He.glo_ok X G (c.fact 8 (f := .glo "rest_of") rfl)
  have n__law_pv_left := He.glo_ok X G (c.fact 27 (f := .glo "_law_pv_left") rfl)
  have n_slope := He.glo_ok X G (c.fact 6 (f := .glo "slope") rfl)
  have n__law_pv_slope := He.glo_ok X G (c.fact 24 (f := .glo "_law_pv_slope") rfl)
  have n_sign_at := He.glo_ok X G (c.fact 10 (f := .glo "sign_at") rfl)
  have n_end_sign := He.glo_ok X G (c.fact 12 (f := .glo "end_sign") rfl)
  have n_row_of := He.glo_ok X G (c.fact 11 (f := .glo "row_of") rfl)
  have n_row := He.glo_ok X G (c.fact 14 (f := .glo "row") rfl)
  have n_turns_of := He.glo_ok X G (c.fact 13 (f := .glo "turns_of") rfl)
  have n_turns := He.glo_ok X G (c.fact 15 (f := .glo "turns") rfl)
  have n__law_pv_mark := He.glo_ok X G (c.fact 29 (f := .glo "_law_pv_mark") rfl)
  have n__law_pv_flips := He.glo_ok X G (c.fact 30 (f := .glo "_law_pv_flips") rfl)
  have n__law_pv_chain := He.glo_ok X G (c.fact 28 (f := .glo "_law_pv_chain") rfl)
  have n__law_pv_power := He.glo_ok X G (c.fact 37 (f := .glo "_law_pv_power") rfl)
  have n__law_pv_whole_root := He.glo_ok X G (c.fact 38 (f := .glo "_law_pv_whole_root") rfl)
  have n__law_pv_number := He.glo_ok X G (c.fact 39 (f := .glo "_law_pv_number") rfl)
  have n__law_pv_drawn_number := He.glo_ok X G (c.fact 40 (f := .glo "_law_pv_drawn_number") rfl)
  have n__law_pv_base := He.glo_ok X G (c.fact 41 (f := .glo "_law_pv_base") rfl)
  have n__law_pv_factor := He.glo_ok X G (c.fact 42 (f := .glo "_law_pv_factor") rfl)
  have n__law_pv_factors := He.glo_ok X G (c.fact 43 (f := .glo "_law_pv_factors") rfl)
  have n__law_pv_multiplied := He.glo_ok X G (c.fact 44 (f := .glo "_law_pv_multiplied") rfl)
  have n__law_pv_checked := He.glo_ok X G (c.fact 45 (f := .glo "_law_pv_checked") rfl)
  have n_law := He.glo_ok X G (c.fact 46 (f := .glo "law") rfl)
  have m_ValueError : mg "ValueError" = none := He.free_ok X G (c.fact 50 (f := .free "ValueError") rfl)
  have m_abs : mg "abs" = none := He.free_ok X G (c.fact 51 (f := .free "abs") rfl)
  have m_enumerate : mg "enumerate" = none := He.free_ok X G (c.fact 52 (f := .free "enumerate") rfl)
  have m_int : mg "int" = none := He.free_ok X G (c.fact 53 (f := .free "int") rfl)
  have m_isinstance : mg "isinstance" = none := He.free_ok X G (c.fact 54 (f := .free "isinstance") rfl)
  have m_len : mg "len" = none := He.free_ok X G (c.fact 55 (f := .free "len") rfl)
  have m_list : mg "list" = none := He.free_ok X G (c.fact 56 (f := .free "list") rfl)
  have m_max : mg "max" = none := He.free_ok X G (c.fact 57 (f := .free "max") rfl)
  have m_min : mg "min" = none := He.free_ok X G (c.fact 58 (f := .free "min") rfl)
  have m_range : mg "range" = none := He.free_ok X G (c.fact 59 (f := .free "range") rfl)
  have m_repr : mg "repr" = none := He.free_ok X G (c.fact 60 (f := .free "repr") rfl)
  have m_sum : mg "sum" = none := He.free_ok X G (c.fact 61 (f := .free "sum") rfl)
  have m_tuple : mg "tuple" = none := He.free_ok X G (c.fact 62 (f := .free "tuple") rfl)
  have m_zip : mg "zip" = none := He.free_ok X G (c.fact 63 (f := .free "zip") rfl)
  have e := hfa.symm.trans n_law
  cases e
  have b := FunD.bindsA (ps := ["script"]) F_law fun _ _ _ _ _ _ us hl => match us, hl with | [_], _ => rfl
  refine ⟨fd_law, fun s v => b s [v] rfl, fun base _ _ => ?_⟩
  have g0_divisor := g_divisor (P := P) (w := w) (mg := mg) (base := base) F_divisor m_abs
  have h_divisor := b_divisor g0_divisor F_divisor n_divisor
  have g0_is_fraction := g_is_fraction (P := P) (w := w) (mg := mg) (base := base) F_is_fraction h_divisor m_len
  have h_is_fraction := b_is_fraction g0_is_fraction F_is_fraction n_is_fraction
  have g0_check_fraction := g_check_fraction (P := P) (w := w) (mg := mg) (base := base) F_check_fraction h_is_fraction
  have h_check_fraction := b_check_fraction g0_check_fraction F_check_fraction n_check_fraction
  have g0_trimmed := g_trimmed (P := P) (w := w) (mg := mg) (base := base) F_trimmed m_len m_list
  have h_trimmed := b_trimmed g0_trimmed F_trimmed n_trimmed
  have g0_checked := g_checked (P := P) (w := w) (mg := mg) (base := base) F_checked
  have h_checked := b_checked g0_checked F_checked n_checked
  have g0_parts_at := g_parts_at (P := P) (w := w) (mg := mg) (base := base) F_parts_at
  have h_parts_at := b_parts_at g0_parts_at F_parts_at n_parts_at
  have g0__law_pv_sack := g__law_pv_sack (P := P) (w := w) (mg := mg) (base := base) F__law_pv_sack m_len m_int m_max m_abs
  have h__law_pv_sack := b__law_pv_sack g0__law_pv_sack F__law_pv_sack n__law_pv_sack
  have g0__law_pv_coin := g__law_pv_coin (P := P) (w := w) (mg := mg) (base := base) F__law_pv_coin m_int
  have h__law_pv_coin := b__law_pv_coin g0__law_pv_coin F__law_pv_coin n__law_pv_coin
  have g0__law_pv_shared := g__law_pv_shared (P := P) (w := w) (mg := mg) (base := base) F__law_pv_shared m_abs m_range m_int
  have h__law_pv_shared := b__law_pv_shared g0__law_pv_shared F__law_pv_shared n__law_pv_shared
  have g0__law_pv_ratio := g__law_pv_ratio (P := P) (w := w) (mg := mg) (base := base) F__law_pv_ratio h__law_pv_shared m_int
  have h__law_pv_ratio := b__law_pv_ratio g0__law_pv_ratio F__law_pv_ratio n__law_pv_ratio
  have g0__law_pv_add := g__law_pv_add (P := P) (w := w) (mg := mg) (base := base) F__law_pv_add h__law_pv_ratio
  have h__law_pv_add := b__law_pv_add g0__law_pv_add F__law_pv_add n__law_pv_add
  have g0__law_pv_mul := g__law_pv_mul (P := P) (w := w) (mg := mg) (base := base) F__law_pv_mul h__law_pv_ratio
  have h__law_pv_mul := b__law_pv_mul g0__law_pv_mul F__law_pv_mul n__law_pv_mul
  have g0__law_pv_trim := g__law_pv_trim (P := P) (w := w) (mg := mg) (base := base) F__law_pv_trim m_len m_range m_list
  have h__law_pv_trim := b__law_pv_trim g0__law_pv_trim F__law_pv_trim n__law_pv_trim
  have g0__law_pv_product := g__law_pv_product (P := P) (w := w) (mg := mg) (base := base) F__law_pv_product h__law_pv_trim m_max m_len m_enumerate
  have h__law_pv_product := b__law_pv_product g0__law_pv_product F__law_pv_product n__law_pv_product
  have g0__law_pv_at := g__law_pv_at (P := P) (w := w) (mg := mg) (base := base) F__law_pv_at h__law_pv_add h__law_pv_mul
  have h__law_pv_at := b__law_pv_at g0__law_pv_at F__law_pv_at n__law_pv_at
  have r__law_pv_copied : ∀ n, Hs P w K mg base "_law_pv_copied" (["thing"] : List Str) n (cCopy n) := by
    intro n
    induction n with
    | zero => exact b__law_pv_copied (fn_void fun as Q ⟨d, _, z, _⟩ => z) F__law_pv_copied n__law_pv_copied
    | succ n ih => exact b__law_pv_copied (g__law_pv_copied F__law_pv_copied n ih m_isinstance m_list m_tuple) F__law_pv_copied n__law_pv_copied
  have h__law_pv_copied := r__law_pv_copied 8
  have r__law_pv_lists : ∀ n, Hs P w K mg base "_law_pv_lists" (["thing"] : List Str) n (cLists n) := by
    intro n
    induction n with
    | zero => exact b__law_pv_lists (fn_void fun as Q ⟨d, _, z, _⟩ => z) F__law_pv_lists n__law_pv_lists
    | succ n ih => exact b__law_pv_lists (g__law_pv_lists F__law_pv_lists n ih m_isinstance m_list m_tuple) F__law_pv_lists n__law_pv_lists
  have h__law_pv_lists := r__law_pv_lists 8
  have g0__law_pv_marked := g__law_pv_marked (P := P) (w := w) (mg := mg) (base := base) F__law_pv_marked h__law_pv_lists m_len m_range m_repr
  have h__law_pv_marked := b__law_pv_marked g0__law_pv_marked F__law_pv_marked n__law_pv_marked
  have g0__law_pv_right := g__law_pv_right (P := P) (w := w) (mg := mg) (base := base) F__law_pv_right h__law_pv_marked h__law_pv_copied m_repr
  have h__law_pv_right := b__law_pv_right g0__law_pv_right F__law_pv_right n__law_pv_right
  have g0__law_pv_poly := g__law_pv_poly (P := P) (w := w) (mg := mg) (base := base) F__law_pv_poly h__law_pv_coin m_range
  have h__law_pv_poly := b__law_pv_poly g0__law_pv_poly F__law_pv_poly n__law_pv_poly
  have g0__law_pv_any_ratio := g__law_pv_any_ratio (P := P) (w := w) (mg := mg) (base := base) F__law_pv_any_ratio h__law_pv_coin h__law_pv_ratio
  have h__law_pv_any_ratio := b__law_pv_any_ratio g0__law_pv_any_ratio F__law_pv_any_ratio n__law_pv_any_ratio
  have g0_checked_some := g_checked_some (P := P) (w := w) (mg := mg) (base := base) F_checked_some h_checked
  have h_checked_some := b_checked_some g0_checked_some F_checked_some n_checked_some
  have g0_primitive := g_primitive (P := P) (w := w) (mg := mg) (base := base) F_primitive h_divisor
  have h_primitive := b_primitive g0_primitive F_primitive n_primitive
  have g0__law_pv_thin := g__law_pv_thin (P := P) (w := w) (mg := mg) (base := base) F__law_pv_thin h__law_pv_shared
  have h__law_pv_thin := b__law_pv_thin g0__law_pv_thin F__law_pv_thin n__law_pv_thin
  have g0_rest_of := g_rest_of (P := P) (w := w) (mg := mg) (base := base) F_rest_of h_primitive h_trimmed m_len m_zip m_abs
  have h_rest_of := b_rest_of g0_rest_of F_rest_of n_rest_of
  have g0__law_pv_left := g__law_pv_left (P := P) (w := w) (mg := mg) (base := base) F__law_pv_left h__law_pv_mul h__law_pv_ratio h__law_pv_add h__law_pv_shared h__law_pv_thin h__law_pv_trim m_range m_len
  have h__law_pv_left := b__law_pv_left g0__law_pv_left F__law_pv_left n__law_pv_left
  have g0_slope := g_slope (P := P) (w := w) (mg := mg) (base := base) F_slope m_enumerate
  have h_slope := b_slope g0_slope F_slope n_slope
  have g0__law_pv_slope := g__law_pv_slope (P := P) (w := w) (mg := mg) (base := base) F__law_pv_slope m_enumerate
  have h__law_pv_slope := b__law_pv_slope g0__law_pv_slope F__law_pv_slope n__law_pv_slope
  have g0_sign_at := g_sign_at (P := P) (w := w) (mg := mg) (base := base) F_sign_at h_parts_at m_int
  have h_sign_at := b_sign_at g0_sign_at F_sign_at n_sign_at
  have g0_end_sign := g_end_sign (P := P) (w := w) (mg := mg) (base := base) F_end_sign h_sign_at
  have h_end_sign := b_end_sign g0_end_sign F_end_sign n_end_sign
  have g0_row_of := g_row_of (P := P) (w := w) (mg := mg) (base := base) F_row_of h_slope h_rest_of m_list m_len
  have h_row_of := b_row_of g0_row_of F_row_of n_row_of
  have g0_row := g_row (P := P) (w := w) (mg := mg) (base := base) F_row h_row_of h_checked_some
  have h_row := b_row g0_row F_row n_row
  have k_row_0_0 := bk_row_0_0 g0_row F_row n_row
  have g0_turns_of := g_turns_of (P := P) (w := w) (mg := mg) (base := base) F_turns_of h_end_sign m_len m_range
  have h_turns_of := b_turns_of g0_turns_of F_turns_of n_turns_of
  have g0_turns := g_turns (P := P) (w := w) (mg := mg) (base := base) F_turns h_checked h_check_fraction h_turns_of
  have h_turns := b_turns g0_turns F_turns n_turns
  have k_turns_0_1_0 := bk_turns_0_1_0 g0_turns F_turns n_turns
  have g0__law_pv_mark := g__law_pv_mark (P := P) (w := w) (mg := mg) (base := base) F__law_pv_mark h__law_pv_at m_int
  have h__law_pv_mark := b__law_pv_mark g0__law_pv_mark F__law_pv_mark n__law_pv_mark
  have g0__law_pv_flips := g__law_pv_flips (P := P) (w := w) (mg := mg) (base := base) F__law_pv_flips h__law_pv_mark m_len m_range
  have h__law_pv_flips := b__law_pv_flips g0__law_pv_flips F__law_pv_flips n__law_pv_flips
  have g0__law_pv_chain := g__law_pv_chain (P := P) (w := w) (mg := mg) (base := base) F__law_pv_chain h__law_pv_slope h__law_pv_left m_list m_len m_range
  have h__law_pv_chain := b__law_pv_chain g0__law_pv_chain F__law_pv_chain n__law_pv_chain
  have g0__law_pv_power := g__law_pv_power (P := P) (w := w) (mg := mg) (base := base) F__law_pv_power m_range
  have h__law_pv_power := b__law_pv_power g0__law_pv_power F__law_pv_power n__law_pv_power
  have g0__law_pv_whole_root := g__law_pv_whole_root (P := P) (w := w) (mg := mg) (base := base) F__law_pv_whole_root h__law_pv_power m_range
  have h__law_pv_whole_root := b__law_pv_whole_root g0__law_pv_whole_root F__law_pv_whole_root n__law_pv_whole_root
  have g0__law_pv_number := g__law_pv_number (P := P) (w := w) (mg := mg) (base := base) F__law_pv_number h__law_pv_ratio h__law_pv_whole_root m_int
  have h__law_pv_number := b__law_pv_number g0__law_pv_number F__law_pv_number n__law_pv_number
  have g0__law_pv_drawn_number := g__law_pv_drawn_number (P := P) (w := w) (mg := mg) (base := base) F__law_pv_drawn_number h__law_pv_coin h__law_pv_number
  have h__law_pv_drawn_number := b__law_pv_drawn_number g0__law_pv_drawn_number F__law_pv_drawn_number n__law_pv_drawn_number
  have g0__law_pv_base := g__law_pv_base (P := P) (w := w) (mg := mg) (base := base) F__law_pv_base
  have h__law_pv_base := b__law_pv_base g0__law_pv_base F__law_pv_base n__law_pv_base
  have g0__law_pv_factor := g__law_pv_factor (P := P) (w := w) (mg := mg) (base := base) F__law_pv_factor h__law_pv_coin h__law_pv_ratio h__law_pv_drawn_number h__law_pv_base m_int m_max m_abs
  have h__law_pv_factor := b__law_pv_factor g0__law_pv_factor F__law_pv_factor n__law_pv_factor
  have g0__law_pv_factors := g__law_pv_factors (P := P) (w := w) (mg := mg) (base := base) F__law_pv_factors h__law_pv_coin h__law_pv_factor m_range m_len m_sum m_abs
  have h__law_pv_factors := b__law_pv_factors g0__law_pv_factors F__law_pv_factors n__law_pv_factors
  have g0__law_pv_multiplied := g__law_pv_multiplied (P := P) (w := w) (mg := mg) (base := base) F__law_pv_multiplied h__law_pv_product
  have h__law_pv_multiplied := b__law_pv_multiplied g0__law_pv_multiplied F__law_pv_multiplied n__law_pv_multiplied
  have g0__law_pv_checked := g__law_pv_checked (P := P) (w := w) (mg := mg) (base := base) F__law_pv_checked h__law_pv_poly h__law_pv_coin h__law_pv_multiplied h__law_pv_factors h__law_pv_chain h__law_pv_right h_row h__law_pv_ratio h__law_pv_any_ratio h__law_pv_flips h_turns k_row_0_0 k_turns_0_1_0 m_repr m_range
  have h__law_pv_checked := b__law_pv_checked g0__law_pv_checked F__law_pv_checked n__law_pv_checked
  exact g_law F_law h__law_pv_checked h__law_pv_sack m_range m_max m_min m_len
end My
open PySem PySem.W PySem.Calls PyProof.Rows
theorem PySem.Challenge.cw_valvelevels_k05_rows_of_rests_and_turns_holds : PySem.Challenge.rw_valvelevels_k05_rows_of_rests_and_turns.Holds := by
  w_on; o_law
  refine HandSHeadRun.head_any (r := OpenLaw.row PySem.Challenge.rw_valvelevels_k05_rows_of_rests_and_turns) (q := view (OpenLaw.row PySem.Challenge.rw_valvelevels_k05_rows_of_rests_and_turns).prog [55]) (H := My.hk) (ob := My.ob) (M := 6000) (loose := My.loose) (d := HandSHeadRun.topDef (OpenLaw.row PySem.Challenge.rw_valvelevels_k05_rows_of_rests_and_turns).prog 55) (kwd := []) My.ob_eq
    (by kernel_rfl) (fun s => by kernel_rfl) My.run (by kernel_rfl) (by kernel_rfl) (by kernel_rfl) (by rfl) (by first | assumption | decide +kernel) (by decide +kernel) ⟨rfl, rfl, rfl, rfl, rfl, by decide +kernel⟩ ?hw ?hc
  case hw => w_witness2
  case hc =>
    refine DL.walk_ofG (l := PySem.Challenge.rw_valvelevels_k05_rows_of_rests_and_turns) (n := 63) (k := 12) (x := "script") rfl (by decide) (by kernel_rfl) ⟨⟨rfl, by decide, by decide⟩, rfl⟩ ?_
    intro w mg fa h Y G hmg0
    obtain ⟨K, KX, c⟩ := Y
    have hmg : mg ("law" : PySem.Str) = some (.ref fa) := by
      have e : (HandSHeadRun.topDef (OpenLaw.row PySem.Challenge.rw_valvelevels_k05_rows_of_rests_and_turns).prog 55).name = ("law" : PySem.Str) := by kernel_rfl
      rw [← e]
      exact hmg0
    obtain ⟨fd, hb, hF⟩ := My.facts (P := (PySem.Challenge.rw_valvelevels_k05_rows_of_rests_and_turns).prog) (w := w) KX G hmg c
    exact ⟨K, fd, DL.cLawS, KX, hb, fun _ _ z => z, hF⟩
