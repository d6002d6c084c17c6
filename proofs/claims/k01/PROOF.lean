import PyProof.Rows.All
import Wide.All
import OpenK.AllK
import Wide.FinOn
import HandS.ForMost
import HandS.ForExc
import HandS.Deep
import HandS.TupAny
import HandS.IsInst
import KE.KStateDown
import HandS.Base
import HandS.Call
import HandS.Ends
import HandS.More
import HandS.Words
import HandS.WordsExc
import HandS.Defaults
import HandS.Head0
import HandS.Head1
import HandS.Head2
import HandS.HeadEnd
import HandS.HeadHook1
import HandS.HeadHook2
import HandS.Style
import HandS.Wide
import HandS.WideMore
import PyProof.ReprLen
import PyProof.P3Eq
import Lean
import PySem.Challenge.RW_everyseam_k01_whole_moves_are_a_group
set_option Elab.async false
set_option linter.all false
set_option maxRecDepth 100000
set_option maxHeartbeats 0
/-! DL: values as data; what a def is worth as a function of data. -/
namespace DL
open PySem PySem.Spec PyProof.Rows L2
abbrev Fg := PySem.W.Frag
/-- data: what a value reads as -/
inductive D where
  | non | bl (b : Bool) | int (i : Int) | str (x : Str) | ty (n : String) | fn (a : Addr)
  | tup (xs : List D) | lst (xs : List D) | scr (xs : List D)
  | dK (kvs : List (Key × D)) | dT (kvs : List (List Key × D))
  | ins (C : Addr) (fs : List (Str × D))
  deriving Inhabited
/-- H' holds all that H holds -/
def Le (H H' : Hp) : Prop := ∀ a o, H a = some o → H' a = some o
theorem Le.refl (H : Hp) : Le H H := fun _ _ h => h
theorem Le.trans {H H1 H2 : Hp} (a : Le H H1) (b : Le H1 H2) : Le H H2 := fun x o h => b x o (a x o h)
theorem Le.upd {H : Hp} {p : Addr} {o : HO} (h : H p = none) : Le H (upd H p o) := fun a u e => by
  rw [upd_ne (ne_of_none e h)]; exact e
theorem Le.both {F H : Hp} {p : Addr} {o : HO} (h : Le F H) : Le (L2.upd F p o) (L2.upd H p o) := fun a u e => by
  by_cases q : a = p
  · subst q; rw [upd_same] at e ⊢; exact e
  · rw [upd_ne q] at e ⊢; exact h a u e
theorem Le.none {F H : Hp} {p : Addr} (h : Le F H) (e : H p = none) : F p = none := by
  cases q : F p with
  | none => rfl
  | some o => rw [h p o q] at e; cases e
theorem Rd.mono {F F' : Hp} {a : Addr} {u : HO} (l : Le F F') (h : Rd F a u) : Rd F' a u := h.elim (fun z => .inl (l _ _ z)) fun ⟨o, z⟩ => .inr ⟨o, l _ _ z⟩
theorem SqL.mono {K : Fg} {F F' : Hp} {a : Addr} {xs : List V} (l : Le F F') (h : SqL K F a xs) : SqL K F' a xs := h.elim (fun z => .inl (Rd.mono l z)) .inr
theorem SqT.mono {K : Fg} {F F' : Hp} {a : Addr} {xs : List V} (l : Le F F') (h : SqT K F a xs) : SqT K F' a xs := h.elim (fun z => .inl (Rd.mono l z)) .inr
mutual
/-- the value reads as the data, in the frozen heap F -/
inductive RD (K : Fg) (F : Hp) : V → D → Prop
  | non : RD K F .non .non
  | bl (b : Bool) : RD K F (.bl b) (.bl b)
  | int (i : Int) : RD K F (.int i) (.int i)
  | str (x : Str) : RD K F (.str x) (.str x)
  | ty (n : String) : RD K F (.ty n) (.ty n)
  | fn (a : Addr) : RD K F (.ref a) (.fn a)
  | tup {a : Addr} {xs : List V} {ds : List D} : SqT K F a xs → RDs K F xs ds → RD K F (.ref a) (.tup ds)
  | lst {a : Addr} {xs : List V} {ds : List D} : F a = some (.lst xs) → RDs K F xs ds → RD K F (.ref a) (.lst ds)
  | scr {a : Addr} {xs : List V} {ds : List D} : SqL K F a xs → RDs K F xs ds → RD K F (.ref a) (.scr ds)
  | dK {a : Addr} {kvs : List (Key × V)} {ds : List (Key × D)} : F a = some (.dK kvs) → kvs.map (·.1) = ds.map (·.1) → RDs K F (kvs.map (·.2)) (ds.map (·.2)) → RD K F (.ref a) (.dK ds)
  | dT {a : Addr} {kvs : List (List Key × V)} {ds : List (List Key × D)} : F a = some (.dT kvs) → kvs.map (·.1) = ds.map (·.1) → RDs K F (kvs.map (·.2)) (ds.map (·.2)) → RD K F (.ref a) (.dT ds)
  | ins {a C dx : Addr} {fs : List (Str × V)} {ds : List (Str × D)} : F a = some (.ins C dx fs) → F dx = some (.own a) → fs.map (·.1) = ds.map (·.1) → RDs K F (fs.map (·.2)) (ds.map (·.2)) → RD K F (.ref a) (.ins C ds)
inductive RDs (K : Fg) (F : Hp) : List V → List D → Prop
  | nil : RDs K F [] []
  | cons {v : V} {d : D} {vs : List V} {ds : List D} : RD K F v d → RDs K F vs ds → RDs K F (v :: vs) (d :: ds)
end
mutual
theorem RD.mono {K : Fg} {F F' : Hp} (l : Le F F') : ∀ {v : V} {d : D}, RD K F v d → RD K F' v d
  | _, _, .non => .non
  | _, _, .bl b => .bl b
  | _, _, .int b => .int b
  | _, _, .str b => .str b
  | _, _, .ty b => .ty b
  | _, _, .fn b => .fn b
  | _, _, .tup h r => .tup (SqT.mono l h) (RDs.mono l r)
  | _, _, .lst h r => .lst (l _ _ h) (RDs.mono l r)
  | _, _, .scr h r => .scr (SqL.mono l h) (RDs.mono l r)
  | _, _, .dK h e r => .dK (l _ _ h) e (RDs.mono l r)
  | _, _, .dT h e r => .dT (l _ _ h) e (RDs.mono l r)
  | _, _, .ins h h2 e r => .ins (l _ _ h) (l _ _ h2) e (RDs.mono l r)
theorem RDs.mono {K : Fg} {F F' : Hp} (l : Le F F') : ∀ {vs : List V} {ds : List D}, RDs K F vs ds → RDs K F' vs ds
  | _, _, .nil => .nil
  | _, _, .cons a b => .cons (RD.mono l a) (RDs.mono l b)
end
theorem RDs.length {K : Fg} {F : Hp} : ∀ {vs : List V} {ds : List D}, RDs K F vs ds → vs.length = ds.length
  | _, _, .nil => rfl
  | _, _, .cons _ b => congrArg (· + 1) (RDs.length b)
theorem RDs.append {K : Fg} {F : Hp} : ∀ {vs ws : List V} {ds es : List D}, RDs K F vs ds → RDs K F ws es → RDs K F (vs ++ ws) (ds ++ es)
  | _, _, _, _, .nil, h => h
  | _, _, _, _, .cons a b, h => .cons a (RDs.append b h)
theorem RDs.get {K : Fg} {F : Hp} : ∀ {vs : List V} {ds : List D} {i : Nat} {d : D}, RDs K F vs ds → ds[i]? = some d → ∃ v, vs[i]? = some v ∧ RD K F v d
  | _, _, _, _, .nil, h => by simp at h
  | _, _, 0, _, .cons a b, h => ⟨_, rfl, by simp at h; subst h; exact a⟩
  | _, _, i + 1, _, .cons a b, h => by
    obtain ⟨v, e, r⟩ := RDs.get (i := i) b (by simpa using h)
    exact ⟨v, by simpa using e, r⟩
theorem RDs.getV {K : Fg} {F : Hp} : ∀ {vs : List V} {ds : List D} {i : Nat} {v : V}, RDs K F vs ds → vs[i]? = some v → ∃ d, ds[i]? = some d ∧ RD K F v d
  | _, _, _, _, .nil, h => by simp at h
  | _, _, 0, _, .cons a b, h => ⟨_, rfl, by simp at h; subst h; exact a⟩
  | _, _, i + 1, _, .cons a b, h => by
    obtain ⟨v, e, r⟩ := RDs.getV (i := i) b (by simpa using h)
    exact ⟨v, by simpa using e, r⟩
theorem RDs.take {K : Fg} {F : Hp} : ∀ {vs : List V} {ds : List D} (n : Nat), RDs K F vs ds → RDs K F (vs.take n) (ds.take n)
  | _, _, 0, _ => by simp; exact .nil
  | _, _, _ + 1, .nil => by simp; exact .nil
  | _, _, n + 1, .cons a b => .cons a (RDs.take n b)
theorem RDs.drop {K : Fg} {F : Hp} : ∀ {vs : List V} {ds : List D} (n : Nat), RDs K F vs ds → RDs K F (vs.drop n) (ds.drop n)
  | _, _, 0, h => by simpa using h
  | _, _, _ + 1, .nil => by simp; exact .nil
  | _, _, n + 1, .cons a b => by simpa using RDs.drop n b
theorem RDs.set {K : Fg} {F : Hp} {v : V} {d : D} (r : RD K F v d) : ∀ {vs : List V} {ds : List D} (i : Nat), RDs K F vs ds → RDs K F (vs.set i v) (ds.set i d)
  | _, _, _, .nil => .nil
  | _, _, 0, .cons a b => .cons r b
  | _, _, i + 1, .cons a b => .cons a (RDs.set r i b)
theorem RDs.rev {K : Fg} {F : Hp} : ∀ {vs : List V} {ds : List D}, RDs K F vs ds → RDs K F vs.reverse ds.reverse
  | _, _, .nil => .nil
  | _, _, .cons a b => by
    rw [List.reverse_cons, List.reverse_cons]
    exact (RDs.rev b).append (.cons a .nil)
/-! ### plain data -/
mutual
def toP : D → PyData
  | .non => .none
  | .bl b => .bool b
  | .int i => .int i
  | .str x => .str x
  | .tup xs => .tuple (toPs xs)
  | .lst xs => .list (toPs xs)
  | _ => .none
def toPs : List D → List PyData
  | [] => []
  | x :: xs => toP x :: toPs xs
end
mutual
/-- None, bools, ints, texts, tuples and lists of these -/
def plainD : D → Bool
  | .non => true
  | .bl _ => true
  | .int _ => true
  | .str _ => true
  | .tup xs => plainDs xs
  | .lst xs => plainDs xs
  | _ => false
def plainDs : List D → Bool
  | [] => true
  | x :: xs => plainD x && plainDs xs
end
mutual
theorem RD.dp {K : Fg} {F : Hp} : ∀ {v : V} {d : D}, RD K F v d → plainD d = true → Dp K F v (toP d)
  | _, _, .non, _ => .non
  | _, _, .bl b, _ => .bl b
  | _, _, .int b, _ => .int b
  | _, _, .str b, _ => .str b
  | _, _, .ty b, h => by cases h
  | _, _, .fn b, h => by cases h
  | _, _, .tup h r, q => .tup h (RDs.dp r q)
  | _, _, .lst h r, q => .lst (SqL.of h) (RDs.dp r q)
  | _, _, .scr h r, q => by cases q
  | _, _, .dK h e r, q => by cases q
  | _, _, .dT h e r, q => by cases q
  | _, _, .ins h h2 e r, q => by cases q
theorem RDs.dp {K : Fg} {F : Hp} : ∀ {vs : List V} {ds : List D}, RDs K F vs ds → plainDs ds = true → DpAll K F vs (toPs ds)
  | _, _, .nil, _ => .nil
  | _, _, .cons a b, h => by
    have h' : (plainD _ && plainDs _) = true := h
    rw [Bool.and_eq_true] at h'
    exact .cons (RD.dp a h'.1) (RDs.dp b h'.2)
end
/-! ### what is owned: reached by one name alone, so it may change -/
inductive Sh where
  | fz | lst (e : Sh) | dct (e : Sh) | ins (fs : List (Str × Sh)) | pin (a : Addr) (s : Sh)

mutual
inductive Own (K : Fg) (F H : Hp) : Sh → V → D → List Addr → Prop
  | fz {v : V} {d : D} : RD K F v d → Own K F H .fz v d []
  | pin {s : Sh} {a : Addr} {d : D} {fp : List Addr} : Own K F H s (.ref a) d fp → Own K F H (.pin a s) (.ref a) d fp
  | lst {e : Sh} {a : Addr} {xs : List V} {ds : List D} {fp : List Addr} : H a = some (.lst xs) → Owns K F H e xs ds fp → a ∉ fp → Own K F H (.lst e) (.ref a) (.lst ds) (a :: fp)
  | dK {e : Sh} {a : Addr} {kvs : List (Key × V)} {ds : List (Key × D)} {fp : List Addr} : H a = some (.dK kvs) → kvs.map (·.1) = ds.map (·.1) → Owns K F H e (kvs.map (·.2)) (ds.map (·.2)) fp → a ∉ fp → Own K F H (.dct e) (.ref a) (.dK ds) (a :: fp)
  | dT {e : Sh} {a : Addr} {kvs : List (List Key × V)} {ds : List (List Key × D)} {fp : List Addr} : H a = some (.dT kvs) → kvs.map (·.1) = ds.map (·.1) → Owns K F H e (kvs.map (·.2)) (ds.map (·.2)) fp → a ∉ fp → Own K F H (.dct e) (.ref a) (.dT ds) (a :: fp)
  | ins {shs : List (Str × Sh)} {a C dx : Addr} {fs : List (Str × V)} {ds : List (Str × D)} {fp : List Addr} : H a = some (.ins C dx fs) → H dx = some (.own a) → OwnF K F H shs fs ds fp → a ∉ fp → dx ∉ fp → Own K F H (.ins shs) (.ref a) (.ins C ds) (a :: dx :: fp)
inductive Owns (K : Fg) (F H : Hp) : Sh → List V → List D → List Addr → Prop
  | nil {e : Sh} : Owns K F H e [] [] []
  | cons {e : Sh} {v : V} {d : D} {vs : List V} {ds : List D} {fp fp2 : List Addr} : Own K F H e v d fp → Owns K F H e vs ds fp2 → (∀ a ∈ fp, a ∉ fp2) → Owns K F H e (v :: vs) (d :: ds) (fp ++ fp2)
inductive OwnF (K : Fg) (F H : Hp) : List (Str × Sh) → List (Str × V) → List (Str × D) → List Addr → Prop
  | nil {shs : List (Str × Sh)} : OwnF K F H shs [] [] []
  | cons {shs : List (Str × Sh)} {f : Str} {v : V} {d : D} {vs : List (Str × V)} {ds : List (Str × D)} {fp fp2 : List Addr} : Own K F H ((shs.lookup f).getD .fz) v d fp → OwnF K F H shs vs ds fp2 → (∀ a ∈ fp, a ∉ fp2) → OwnF K F H shs ((f, v) :: vs) ((f, d) :: ds) (fp ++ fp2)
end
mutual
theorem Own.mono {K : Fg} {F F' H H' : Hp} (l : Le F F') : ∀ {sh : Sh} {v : V} {d : D} {fp : List Addr}, Own K F H sh v d fp → (∀ a ∈ fp, ∀ o, H a = some o → H' a = some o) → Own K F' H' sh v d fp
  | _, _, _, _, .fz r, _ => .fz (r.mono l)
  | _, _, _, _, .pin r, k => .pin (Own.mono l r k)
  | _, _, _, _, .lst h r n, k => .lst (k _ (List.mem_cons_self) _ h) (Owns.mono l r fun a m => k a (List.mem_cons_of_mem _ m)) n
  | _, _, _, _, .dK h e r n, k => .dK (k _ (List.mem_cons_self) _ h) e (Owns.mono l r fun a m => k a (List.mem_cons_of_mem _ m)) n
  | _, _, _, _, .dT h e r n, k => .dT (k _ (List.mem_cons_self) _ h) e (Owns.mono l r fun a m => k a (List.mem_cons_of_mem _ m)) n
  | _, _, _, _, .ins h h2 r n n2, k => .ins (k _ (List.mem_cons_self) _ h) (k _ (List.mem_cons_of_mem _ (List.mem_cons_self)) _ h2) (OwnF.mono l r fun a m => k a (List.mem_cons_of_mem _ (List.mem_cons_of_mem _ m))) n n2
theorem Owns.mono {K : Fg} {F F' H H' : Hp} (l : Le F F') : ∀ {sh : Sh} {v : List V} {d : List D} {fp : List Addr}, Owns K F H sh v d fp → (∀ a ∈ fp, ∀ o, H a = some o → H' a = some o) → Owns K F' H' sh v d fp
  | _, _, _, _, .nil, _ => .nil
  | _, _, _, _, .cons a b n, k => .cons (Own.mono l a fun x m => k x (List.mem_append_left _ m)) (Owns.mono l b fun x m => k x (List.mem_append_right _ m)) n
theorem OwnF.mono {K : Fg} {F F' H H' : Hp} (l : Le F F') : ∀ {sh : List (Str × Sh)} {v : List (Str × V)} {d : List (Str × D)} {fp : List Addr}, OwnF K F H sh v d fp → (∀ a ∈ fp, ∀ o, H a = some o → H' a = some o) → OwnF K F' H' sh v d fp
  | _, _, _, _, .nil, _ => .nil
  | _, _, _, _, .cons a b n, k => .cons (Own.mono l a fun x m => k x (List.mem_append_left _ m)) (OwnF.mono l b fun x m => k x (List.mem_append_right _ m)) n
end
mutual
theorem Own.live {K : Fg} {F H : Hp} : ∀ {sh : Sh} {v : V} {d : D} {fp : List Addr}, Own K F H sh v d fp → ∀ a ∈ fp, ∃ o, H a = some o
  | _, _, _, _, .fz r, _, m => by cases m
  | _, _, _, _, .pin r, a, m => Own.live r a m
  | _, _, _, _, .lst h r n, a, m => (List.mem_cons.mp m).elim (fun e => ⟨_, e ▸ h⟩) fun m => Owns.live r a m
  | _, _, _, _, .dK h e r n, a, m => (List.mem_cons.mp m).elim (fun e => ⟨_, e ▸ h⟩) fun m => Owns.live r a m
  | _, _, _, _, .dT h e r n, a, m => (List.mem_cons.mp m).elim (fun e => ⟨_, e ▸ h⟩) fun m => Owns.live r a m
  | _, _, _, _, .ins h h2 r n n2, a, m => (List.mem_cons.mp m).elim (fun e => ⟨_, e ▸ h⟩) fun m => (List.mem_cons.mp m).elim (fun e => ⟨_, e ▸ h2⟩) fun m => OwnF.live r a m
theorem Owns.live {K : Fg} {F H : Hp} : ∀ {sh : Sh} {v : List V} {d : List D} {fp : List Addr}, Owns K F H sh v d fp → ∀ a ∈ fp, ∃ o, H a = some o
  | _, _, _, _, .nil, _, m => by cases m
  | _, _, _, _, .cons x y n, a, m => (List.mem_append.mp m).elim (fun m => Own.live x a m) fun m => Owns.live y a m
theorem OwnF.live {K : Fg} {F H : Hp} : ∀ {sh : List (Str × Sh)} {v : List (Str × V)} {d : List (Str × D)} {fp : List Addr}, OwnF K F H sh v d fp → ∀ a ∈ fp, ∃ o, H a = some o
  | _, _, _, _, .nil, _, m => by cases m
  | _, _, _, _, .cons x y n, a, m => (List.mem_append.mp m).elim (fun m => Own.live x a m) fun m => OwnF.live y a m
end
/-- F and what stands at fp -/
def withH (F H : Hp) (fp : List Addr) : Hp := fun a => if a ∈ fp then H a else F a
theorem withH_in {F H : Hp} {fp : List Addr} {a : Addr} (h : a ∈ fp) : withH F H fp a = H a := by unfold withH; rw [if_pos h]
theorem withH_out {F H : Hp} {fp : List Addr} {a : Addr} (h : a ∉ fp) : withH F H fp a = F a := by unfold withH; rw [if_neg h]
theorem withH_le {F H : Hp} {fp : List Addr} (n : ∀ a ∈ fp, F a = none) : Le F (withH F H fp) := fun a o e => by
  by_cases m : a ∈ fp
  · rw [n a m] at e; cases e
  · rw [withH_out m]; exact e
theorem withH_sub {F H : Hp} {fp : List Addr} (l : Le F H) : Le (withH F H fp) H := fun a o e => by
  by_cases m : a ∈ fp
  · rw [withH_in m] at e; exact e
  · rw [withH_out m] at e; exact l a o e
mutual
theorem Own.rd {K : Fg} {F F' H : Hp} (l : Le F F') : ∀ {sh : Sh} {v : V} {d : D} {fp : List Addr}, Own K F H sh v d fp → (∀ a ∈ fp, ∀ o, H a = some o → F' a = some o) → RD K F' v d
  | _, _, _, _, .fz r, _ => r.mono l
  | _, _, _, _, .pin r, k => Own.rd l r k
  | _, _, _, _, .lst h r n, k => .lst (k _ (List.mem_cons_self) _ h) (Owns.rd l r fun a m => k a (List.mem_cons_of_mem _ m))
  | _, _, _, _, .dK h e r n, k => .dK (k _ (List.mem_cons_self) _ h) e (Owns.rd l r fun a m => k a (List.mem_cons_of_mem _ m))
  | _, _, _, _, .dT h e r n, k => .dT (k _ (List.mem_cons_self) _ h) e (Owns.rd l r fun a m => k a (List.mem_cons_of_mem _ m))
  | _, _, _, _, .ins h h2 r n n2, k => by
    obtain ⟨e, q⟩ := OwnF.rd l r fun a m => k a (List.mem_cons_of_mem _ (List.mem_cons_of_mem _ m))
    exact .ins (k _ (List.mem_cons_self) _ h) (k _ (List.mem_cons_of_mem _ (List.mem_cons_self)) _ h2) e q
theorem Owns.rd {K : Fg} {F F' H : Hp} (l : Le F F') : ∀ {sh : Sh} {v : List V} {d : List D} {fp : List Addr}, Owns K F H sh v d fp → (∀ a ∈ fp, ∀ o, H a = some o → F' a = some o) → RDs K F' v d
  | _, _, _, _, .nil, _ => .nil
  | _, _, _, _, .cons a b n, k => .cons (Own.rd l a fun x m => k x (List.mem_append_left _ m)) (Owns.rd l b fun x m => k x (List.mem_append_right _ m))
theorem OwnF.rd {K : Fg} {F F' H : Hp} (l : Le F F') : ∀ {sh : List (Str × Sh)} {v : List (Str × V)} {d : List (Str × D)} {fp : List Addr}, OwnF K F H sh v d fp → (∀ a ∈ fp, ∀ o, H a = some o → F' a = some o) → v.map (·.1) = d.map (·.1) ∧ RDs K F' (v.map (·.2)) (d.map (·.2))
  | _, _, _, _, .nil, _ => ⟨rfl, .nil⟩
  | _, _, _, _, .cons a b n, k => by
    obtain ⟨e, q⟩ := OwnF.rd l b fun x m => k x (List.mem_append_right _ m)
    exact ⟨by simp [e], .cons (Own.rd l a fun x m => k x (List.mem_append_left _ m)) q⟩
end
theorem Owns.of_rds {K : Fg} {F H : Hp} : ∀ {vs : List V} {ds : List D}, RDs K F vs ds → Owns K F H .fz vs ds []
  | _, _, .nil => .nil
  | _, _, .cons a b => by
    have q := Owns.cons (Own.fz (H := H) a) (Owns.of_rds b) (fun _ m => by cases m)
    simpa using q
theorem Owns.fz_rds {K : Fg} {F H : Hp} : ∀ {vs : List V} {ds : List D} {fp : List Addr}, Owns K F H .fz vs ds fp → RDs K F vs ds ∧ fp = []
  | _, _, _, .nil => ⟨.nil, rfl⟩
  | _, _, _, .cons a b n => by
    cases a with
    | fz r =>
      obtain ⟨q, e⟩ := Owns.fz_rds b
      subst e
      exact ⟨.cons r q, rfl⟩
/-! ### the names' data -/
abbrev Rho := List (Option D)
inductive OwnL (K : Fg) (F H : Hp) : List Sh → L2.St → Rho → List Addr → Prop
  | nil : OwnL K F H [] [] [] []
  | un {s : Sh} {x : Option V} {ω : List Sh} {σ : L2.St} {ρ : Rho} {fp : List Addr} : OwnL K F H ω σ ρ fp → OwnL K F H (s :: ω) (x :: σ) (none :: ρ) fp
  | bd {s : Sh} {v : V} {d : D} {ω : List Sh} {σ : L2.St} {ρ : Rho} {fp fp2 : List Addr} : Own K F H s v d fp → OwnL K F H ω σ ρ fp2 → (∀ a ∈ fp, a ∉ fp2) → OwnL K F H (s :: ω) (some v :: σ) (some d :: ρ) (fp ++ fp2)
theorem OwnL.mono {K : Fg} {F F' H H' : Hp} (l : Le F F') : ∀ {ω : List Sh} {σ : L2.St} {ρ : Rho} {fp : List Addr}, OwnL K F H ω σ ρ fp → (∀ a ∈ fp, ∀ o, H a = some o → H' a = some o) → OwnL K F' H' ω σ ρ fp
  | _, _, _, _, .nil, _ => .nil
  | _, _, _, _, .un h, k => .un (OwnL.mono l h k)
  | _, _, _, _, .bd a b n, k => .bd (Own.mono l a fun x m => k x (List.mem_append_left _ m)) (OwnL.mono l b fun x m => k x (List.mem_append_right _ m)) n
theorem OwnL.live {K : Fg} {F H : Hp} : ∀ {ω : List Sh} {σ : L2.St} {ρ : Rho} {fp : List Addr}, OwnL K F H ω σ ρ fp → ∀ a ∈ fp, ∃ o, H a = some o
  | _, _, _, _, .nil, _, m => by cases m
  | _, _, _, _, .un h, a, m => OwnL.live h a m
  | _, _, _, _, .bd x y n, a, m => (List.mem_append.mp m).elim (fun m => Own.live x a m) fun m => OwnL.live y a m
theorem OwnL.len {K : Fg} {F H : Hp} : ∀ {ω : List Sh} {σ : L2.St} {ρ : Rho} {fp : List Addr}, OwnL K F H ω σ ρ fp → ω.length = ρ.length ∧ σ.length = ρ.length
  | _, _, _, _, .nil => ⟨rfl, rfl⟩
  | _, _, _, _, .un h => by obtain ⟨a, b⟩ := OwnL.len h; simp [a, b]
  | _, _, _, _, .bd _ h _ => by obtain ⟨a, b⟩ := OwnL.len h; simp [a, b]
/-- F: frozen; G: what others own, left as it is; the names' data -/
structure Sim (K : Fg) (ω : List Sh) (F G H : Hp) (ρ : Rho) (σ : L2.St) : Prop where
  own : ∃ fp, OwnL K F H ω σ ρ fp ∧ ∀ a ∈ fp, F a = none ∧ G a = none
  fH : Le F H
  gH : Le G H
  dj : ∀ a, G a ≠ none → F a = none
section
variable {K : Fg} {ω : List Sh} {F F' G H H' : Hp} {ρ : Rho} {σ : L2.St} {sh : Sh} {v : V} {d : D}
/-- new objects are laid and frozen -/
theorem Sim.grow (S : Sim K ω F G H ρ σ) (lf : Le F F') (lh : Le H H') (fh : Le F' H') (new : ∀ a, F a = none → H a ≠ none → F' a = none) : Sim K ω F' G H' ρ σ := by
  obtain ⟨⟨fp, o, n⟩, a, b, dj⟩ := S
  refine ⟨⟨fp, o.mono lf fun x _ u e => lh x u e, fun x m => ⟨new x (n x m).1 ?_, (n x m).2⟩⟩, fh, b.trans lh, fun x q => new x (dj x q) fun z => ?_⟩
  rotate_left
  · cases e : G x with
    | none => exact q e
    | some u => rw [b x u e] at z; cases z
  obtain ⟨u, e⟩ := o.live x m
  rw [e]; exact fun z => nomatch z
theorem Sim.new (S : Sim K ω F G H ρ σ) {p : Addr} {o : HO} (h : H p = none) : Le F (upd F p o) ∧ Sim K ω (upd F p o) G (upd H p o) ρ σ :=
  ⟨Le.upd (S.fH.none h), S.grow (Le.upd (S.fH.none h)) (Le.upd h) S.fH.both fun a e n => by
    rw [upd_ne (fun z => n (by rw [z]; exact h))]; exact e⟩
theorem Sim.push (S : Sim K ω F G H ρ σ) (r : RD K F v d) : Sim K (.fz :: ω) F G H (some d :: ρ) (some v :: σ) := by
  obtain ⟨⟨fp, o, n⟩, a, b, dj⟩ := S
  exact ⟨⟨[] ++ fp, .bd (.fz r) o (fun _ m => by cases m), n⟩, a, b, dj⟩
theorem Sim.top (S : Sim K (.fz :: ω) F G H (some d :: ρ) (some v :: σ)) : RD K F v d ∧ Sim K ω F G H ρ σ := by
  obtain ⟨⟨fp, o, n⟩, a, b, dj⟩ := S
  cases o with
  | bd x y z =>
    cases x with
    | fz r => exact ⟨r, ⟨⟨_, y, n⟩, a, b, dj⟩⟩
theorem Sim.pop {x : Option V} {y : Option D} (S : Sim K (sh :: ω) F G H (y :: ρ) (x :: σ)) : Sim K ω F G H ρ σ := by
  obtain ⟨⟨fp, o, n⟩, a, b, dj⟩ := S
  cases o with
  | bd x y z => exact ⟨⟨_, y, fun a m => n a (List.mem_append_right _ m)⟩, a, b, dj⟩
  | un y => exact ⟨⟨_, y, n⟩, a, b, dj⟩
theorem OwnL.get {fp : List Addr} (o : OwnL K F H ω σ ρ fp) : ∀ {i : Nat}, ω[i]? = some .fz → ρ[i]? = some (some d) → ∃ v, σ[i]? = some (some v) ∧ RD K F v d := by
  induction o with
  | nil => intro i h; simp at h
  | un _ ih =>
    intro i h1 h2
    cases i with
    | zero => simp at h2
    | succ i => simpa using ih (i := i) (by simpa using h1) (by simpa using h2)
  | @bd s v' d' ω' σ' ρ' fp1 fp2 a _ _ ih =>
    intro i h1 h2
    cases i with
    | zero =>
      simp at h1 h2
      subst h1 h2
      cases a with
      | fz r => exact ⟨v', rfl, r⟩
    | succ i => simpa using ih (i := i) (by simpa using h1) (by simpa using h2)
theorem Sim.get (S : Sim K ω F G H ρ σ) {i : Nat} (h1 : ω[i]? = some .fz) (h2 : ρ[i]? = some (some d)) : ∃ v, σ[i]? = some (some v) ∧ RD K F v d := by
  obtain ⟨⟨fp, o, n⟩, a, b, dj⟩ := S
  exact o.get h1 h2
theorem OwnL.set {fp fv : List Addr} (w : Own K F H sh v d fv) (o : OwnL K F H ω σ ρ fp) : ∀ (i : Nat), (∀ a ∈ fv, a ∉ fp) → ∃ fp', OwnL K F H (ω.set i sh) (σ.set i (some v)) (ρ.set i (some d)) fp' ∧ ∀ a ∈ fp', a ∈ fv ∨ a ∈ fp := by
  induction o with
  | nil => intro i h; exact ⟨[], .nil, (fun _ m => by cases m)⟩
  | @un s x ω' σ' ρ' fp' b ih =>
    intro i h
    cases i with
    | zero => exact ⟨fv ++ fp', .bd w b h, fun a m => List.mem_append.mp m⟩
    | succ i =>
      obtain ⟨fq, q, m⟩ := ih i h
      exact ⟨fq, .un q, m⟩
  | @bd s v' d' ω' σ' ρ' fp1 fp2 a b n ih =>
    intro i h
    cases i with
    | zero => exact ⟨fv ++ fp2, .bd w b fun x m z => h x m (List.mem_append_right _ z), fun x m => (List.mem_append.mp m).imp id fun m => List.mem_append_right _ m⟩
    | succ i =>
      obtain ⟨fq, q, m⟩ := ih i fun x z y => h x z (List.mem_append_right _ y)
      refine ⟨fp1 ++ fq, .bd a q fun x z y => ?_, fun x z => ?_⟩
      · rcases m x y with y | y
        · exact h x y (List.mem_append_left _ z)
        · exact n x z y
      · rcases List.mem_append.mp z with z | z
        · exact .inr (List.mem_append_left _ z)
        · exact (m x z).imp id fun m => List.mem_append_right _ m
/-- the value just made is stored at slot i -/
theorem Sim.set (S : Sim K (sh :: ω) F G H (some d :: ρ) (some v :: σ)) (i : Nat) : Sim K (ω.set i sh) F G H (ρ.set i (some d)) (σ.set i (some v)) := by
  obtain ⟨⟨fp, o, n⟩, a, b, dj⟩ := S
  cases o with
  | bd x y z =>
    obtain ⟨fq, q, m⟩ := OwnL.set x y i z
    exact ⟨⟨fq, q, fun a h => n a (List.mem_append.mpr (m a h))⟩, a, b, dj⟩
/-- what a name owns is frozen -/
inductive Wk : List Sh → List Sh → Prop
  | nil : Wk [] []
  | same {s : Sh} {ω ω' : List Sh} : Wk ω ω' → Wk (s :: ω) (s :: ω')
  | fz {s : Sh} {ω ω' : List Sh} : Wk ω ω' → Wk (s :: ω) (.fz :: ω')
theorem Wk.refl : ∀ ω : List Sh, Wk ω ω
  | [] => .nil
  | _ :: ω => .same (Wk.refl ω)
theorem OwnL.wk {ω' : List Sh} (wk : Wk ω ω') : ∀ {σ : L2.St} {ρ : Rho} {fp : List Addr} {F : Hp}, OwnL K F H ω σ ρ fp → Le F H → (∀ a ∈ fp, F a = none) → ∃ F' fp', Le F F' ∧ Le F' H ∧ (∀ a ∈ fp', a ∈ fp) ∧ (∀ a, a ∉ fp → F' a = F a) ∧ OwnL K F' H ω' σ ρ fp' ∧ ∀ a ∈ fp', F' a = none := by
  induction wk with
  | nil =>
    intro σ ρ fp F o l n
    cases o
    exact ⟨F, [], Le.refl _, l, (fun _ m => by cases m), fun _ _ => rfl, .nil, (fun _ m => by cases m)⟩
  | same w ih =>
    intro σ ρ fp F o l n
    cases o with
    | un o =>
      obtain ⟨F', fp', a, b, c, c2, d, e⟩ := ih o l n
      exact ⟨F', fp', a, b, c, c2, .un d, e⟩
    | bd x y z =>
      rename_i v d σ ρ fp1 fp2
      obtain ⟨F', fp', a, b, c, c2, d, e⟩ := ih y l fun a m => n a (List.mem_append_right _ m)
      refine ⟨F', fp1 ++ fp', a, b, fun x m => ?_, fun x m => c2 x fun q => m (List.mem_append_right _ q), .bd (x.mono a fun _ _ _ e => e) d fun x m q => z x m (c x q), fun x m => ?_⟩
      · exact (List.mem_append.mp m).elim (fun m => List.mem_append_left _ m) fun m => List.mem_append_right _ (c x m)
      · rcases List.mem_append.mp m with m | m
        · rw [c2 x (z x m)]; exact n x (List.mem_append_left _ m)
        · exact e x m
  | fz w ih =>
    intro σ ρ fp F o l n
    cases o with
    | un o =>
      obtain ⟨F', fp', a, b, c, c2, d, e⟩ := ih o l n
      exact ⟨F', fp', a, b, c, c2, .un d, e⟩
    | bd x y z =>
      rename_i v d σ ρ fp1 fp2
      have n1 : ∀ a ∈ fp1, F a = none := fun a m => n a (List.mem_append_left _ m)
      obtain ⟨F', fp', a, b, c, c2, d, e⟩ := ih (y.mono (withH_le (H := H) n1) fun _ _ _ e => e) (withH_sub l) fun a m => by
        rw [withH_out (fun q => z a q m)]; exact n a (List.mem_append_right _ m)
      refine ⟨F', [] ++ fp', (withH_le n1).trans a, b, fun x m => List.mem_append_right _ (c x m), fun x m => ?_, .bd (.fz (x.rd ((withH_le n1).trans a) fun x m o e => a x o (by rw [withH_in m]; exact e))) d (fun _ m => by cases m), e⟩
      rw [c2 x fun q => m (List.mem_append_right _ q), withH_out fun q => m (List.mem_append_left _ q)]
theorem Sim.wk {ω' : List Sh} (S : Sim K ω F G H ρ σ) (w : Wk ω ω') : ∃ F', Le F F' ∧ Sim K ω' F' G H ρ σ := by
  obtain ⟨⟨fp, o, n⟩, a, b, dj⟩ := S
  obtain ⟨F', fp', x, y, z, z2, u, t⟩ := o.wk w a fun a m => (n a m).1
  exact ⟨F', x, ⟨fp', u, fun a m => ⟨t a m, (n a (z a m)).2⟩⟩, y, b, fun x q => by rw [z2 x fun m => q (n x m).2]; exact dj x q⟩
end
end DL
/-! DL: what an expression is worth, as a function of the names' data. -/
namespace DL
open PySem PySem.Spec PyProof.Rows L2
/-- an exception: its class's name, its fields -/
structure Exn where
  cls : Str
  fs : List (Str × D)
inductive Res (α : Type) where
  | ok (a : α) (ρ : Rho) | exc (e : Exn) (ρ : Rho) | no
abbrev M (α : Type) := Rho → Res α
def Res.sat {α : Type} (r : Res α) (P : α → Rho → Prop) (Z : Exn → Rho → Prop) : Prop :=
  match r with
  | .ok a ρ => P a ρ
  | .exc e ρ => Z e ρ
  | .no => False
def pureM {α : Type} (a : α) : M α := fun ρ => .ok a ρ
def bindM {α β : Type} (m : M α) (f : α → M β) : M β := fun ρ =>
  match m ρ with
  | .ok a ρ1 => f a ρ1
  | .exc e ρ1 => .exc e ρ1
  | .no => .no
def failM {α : Type} : M α := fun _ => .no
def liftO {α : Type} (o : Option α) : M α := fun ρ =>
  match o with
  | some a => .ok a ρ
  | none => .no
def getV (i : Nat) : M D := fun ρ =>
  match ρ[i]? with
  | some (some d) => .ok d ρ
  | _ => .no
theorem Res.sat_bind {α β : Type} {m : M α} {f : α → M β} {ρ : Rho} {P : β → Rho → Prop} {Z : Exn → Rho → Prop} (h : (bindM m f ρ).sat P Z) : (m ρ).sat (fun a ρ1 => (f a ρ1).sat P Z) Z := by
  unfold bindM at h
  cases e : m ρ with
  | ok a ρ1 => rw [e] at h; exact h
  | exc x ρ1 => rw [e] at h; exact h
  | no => rw [e] at h; exact h
theorem Res.sat_mono {α : Type} {r : Res α} {P P' : α → Rho → Prop} {Z Z' : Exn → Rho → Prop} (h : r.sat P Z) (hp : ∀ a ρ, P a ρ → P' a ρ) (hz : ∀ a ρ, Z a ρ → Z' a ρ) : r.sat P' Z' := by
  cases r with
  | ok a ρ => exact hp a ρ h
  | exc a ρ => exact hz a ρ h
  | no => exact h
/-- F grows as H does, by new objects alone -/
structure Gr (F H F' H' : Hp) : Prop where
  lf : Le F F'
  lh : Le H H'
  fh : Le F' H'
  new : ∀ a, F a = none → H a ≠ none → F' a = none
theorem Gr.refl {F H : Hp} (h : Le F H) : Gr F H F H := ⟨Le.refl _, Le.refl _, h, fun _ e _ => e⟩
theorem Gr.one {F H : Hp} {p : Addr} {o : HO} (h : Le F H) (n : H p = none) : Gr F H (upd F p o) (upd H p o) :=
  ⟨Le.upd (h.none n), Le.upd n, h.both, fun a e q => by rw [upd_ne (fun z => q (by rw [z]; exact n))]; exact e⟩
theorem Gr.trans {F H F1 H1 F2 H2 : Hp} (a : Gr F H F1 H1) (b : Gr F1 H1 F2 H2) : Gr F H F2 H2 :=
  ⟨a.lf.trans b.lf, a.lh.trans b.lh, b.fh, fun x e n => b.new x (a.new x e n) fun z => by
    cases q : H x with
    | none => exact n q
    | some o => rw [a.lh x o q] at z; cases z⟩
theorem Sim.gr {K : Fg} {ω : List Sh} {F F' G H H' : Hp} {ρ : Rho} {σ : L2.St} (S : Sim K ω F G H ρ σ) (g : Gr F H F' H') : Sim K ω F' G H' ρ σ := S.grow g.lf g.lh g.fh g.new
/-- the class and the fields of an exception that flies -/
def ExIs (K : Fg) (mg : Str → Option Value) (F H : Hp) (e : Exn) (cls : Value) (dx : Option Addr) : Prop :=
  ∃ C, cls = .ref C ∧ mg e.cls = some (.ref C) ∧ (match dx with
    | none => e.fs = []
    | some d => ∃ fs : List (Str × V), H d = some (.xd fs) ∧ fs.map (·.1) = e.fs.map (·.1) ∧ RDs K F (fs.map (·.2)) (e.fs.map (·.2)))
section
variable {K : Fg} {mg : Str → Option Value} {W : WX} {ω : List Sh} {σ : L2.St} {H : Hp}
/-- what is wanted of an exception -/
def Zx (K : Fg) (mg : Str → Option Value) (W : WX) (ω : List Sh) (F G : Hp) (σ : L2.St) : Exn → Rho → Prop := fun e ρ' =>
  ∀ F' H' cls dx, Le F F' → Sim K ω F' G H' ρ' σ → ExIs K mg F' H' e cls dx → W cls dx σ H'
theorem Zx.le {F F1 G : Hp} (l : Le F F1) {e : Exn} {ρ' : Rho} (z : Zx K mg W ω F G σ e ρ') : Zx K mg W ω F1 G σ e ρ' := fun F' H' cls dx l' => z F' H' cls dx (l.trans l')
/-- the reading of m from a frozen heap F; the value is of shape sh -/
def tMF (K : Fg) (mg : Str → Option Value) (W : WX) (ω : List Sh) (sh : Sh) (F : Hp) (m : M D) : TE := fun σ H Q =>
  ∃ G ρ, Sim K ω F G H ρ σ ∧ (m ρ).sat (fun d ρ' => ∀ v F' H', Le F F' → Sim K (sh :: ω) F' G H' (some d :: ρ') (some v :: σ) → Q v H') (Zx K mg W ω F G σ)
def tM (K : Fg) (mg : Str → Option Value) (W : WX) (ω : List Sh) (sh : Sh) (m : M D) : TE := fun σ H Q => ∃ F, tMF K mg W ω sh F m σ H Q
/-- a first part, then the rest -/
theorem tMF_bind {sh : Sh} {F : Hp} {m : M D} {f : D → M D} {Q : VK} (h : tMF K mg W ω sh F (bindM m f) σ H Q) :
    tMF K mg W ω .fz F m σ H fun x H1 => ∃ d F1, Le F F1 ∧ RD K F1 x d ∧ tMF K mg W ω sh F1 (f d) σ H1 Q := by
  obtain ⟨G, ρ, S, h⟩ := h
  refine ⟨G, ρ, S, Res.sat_mono (Res.sat_bind h) (fun d ρ1 q v F1 H1 l S1 => ?_) fun _ _ z => z⟩
  obtain ⟨r, S2⟩ := S1.top
  exact ⟨d, F1, l, r, G, ρ1, S2, Res.sat_mono q (fun d' ρ' p v' F' H' l' S' => p v' F' H' (l.trans l') S') fun _ _ z => z.le l⟩
theorem tM_bind {sh : Sh} {m : M D} {f : D → M D} {Q : VK} (h : tM K mg W ω sh (bindM m f) σ H Q) :
    tM K mg W ω .fz m σ H fun x H1 => ∃ d F1, RD K F1 x d ∧ tMF K mg W ω sh F1 (f d) σ H1 Q := by
  obtain ⟨F, h⟩ := h
  obtain ⟨G, ρ, S, q⟩ := tMF_bind h
  exact ⟨F, G, ρ, S, Res.sat_mono q (fun d ρ1 q v F1 H1 l S1 => let ⟨d, F2, _, r, z⟩ := q v F1 H1 l S1; ⟨d, F2, r, z⟩) fun _ _ z => z⟩
theorem tMF_mono {sh : Sh} {F : Hp} {m : M D} {Q Q' : VK} (h : tMF K mg W ω sh F m σ H Q) (k : ∀ v H', Q v H' → Q' v H') : tMF K mg W ω sh F m σ H Q' := by
  obtain ⟨G, ρ, S, h⟩ := h
  exact ⟨G, ρ, S, Res.sat_mono h (fun d ρ1 q v F1 H1 l S1 => k _ _ (q v F1 H1 l S1)) fun _ _ z => z⟩
/-- the answer is there: a value that reads as it, new objects at most -/
theorem tMF_ret {F : Hp} {d : D} {Q : VK} (h : tMF K mg W ω .fz F (pureM d) σ H Q) : Le F H ∧ ∀ v F' H', Gr F H F' H' → RD K F' v d → Q v H' := by
  obtain ⟨G, ρ, S, h⟩ := h
  exact ⟨S.fH, fun v F' H' g r => h v F' H' g.lf ((S.gr g).push r)⟩
theorem tMF_lift {F : Hp} {o : Option D} {Q : VK} (h : tMF K mg W ω .fz F (liftO o) σ H Q) : Le F H ∧ ∃ d, o = some d ∧ ∀ v F' H', Gr F H F' H' → RD K F' v d → Q v H' := by
  cases o with
  | none => obtain ⟨_, _, _, h⟩ := h; exact h.elim
  | some d => obtain ⟨a, b⟩ := tMF_ret (d := d) h; exact ⟨a, d, rfl, b⟩
end
/-- e is worth m -/
abbrev DE (X : Cx) (W : WX) (ω : List Sh) (e : Expr) (sh : Sh) (m : M D) : Prop := PE X e (tM X.K X.mg W ω sh m)
section
variable {X : Cx} {W : WX} {ω : List Sh} {pos : Pos} {a b c : Expr} {m1 m2 m3 : M D}
theorem PE.imp {e : Expr} {t t' : TE} (h : PE X e t) (k : ∀ σ H Q, t' σ H Q → t σ H Q) : PE X e t' := ⟨fun pins s σ H Q I q => h.run pins s σ H Q I (k σ H Q q)⟩
/-! ### names, constants -/
theorem de_var {i : Nat} {x : Str} (hs : ω[i]? = some .fz) (h : PE X (.Name x pos) (tVar i)) : DE X W ω (.Name x pos) .fz (getV i) := by
  refine PE.imp h fun σ H Q ⟨F, G, ρ, S, q⟩ => ?_
  unfold getV at q
  split at q
  · rename_i d e
    obtain ⟨v, ev, r⟩ := S.get hs e
    exact ⟨v, ev, q v F H (Le.refl _) (S.push r)⟩
  · exact q.elim
theorem de_const {e : Expr} {v : V} {d : D} (h : PE X e (tC v)) (r : ∀ F, RD X.K F v d) : DE X W ω e .fz (pureM d) :=
  PE.imp h fun σ H Q ⟨F, q⟩ => by
    obtain ⟨l, q⟩ := tMF_ret q
    exact q v F H (Gr.refl l) (r F)
theorem de_int {i : Int} {j} : DE X W ω (.Constant (.int i) j pos) .fz (pureM (.int i)) := de_const pe_int fun _ => .int i
theorem de_bl {i : Bool} {j} : DE X W ω (.Constant (.bool i) j pos) .fz (pureM (.bl i)) := de_const pe_bl fun _ => .bl i
theorem de_non {j} : DE X W ω (.Constant .none j pos) .fz (pureM .non) := de_const pe_non fun _ => .non
theorem de_str {i : Str} {j} : DE X W ω (.Constant (.str i) j pos) .fz (pureM (.str i)) := de_const pe_str fun _ => .str i
/-! ### two-place operators, by data -/
/-- f on values that read as d1, d2 hands back one that reads as g d1 d2 -/
def OpD (X : Cx) (f : Value → Value → Sem Value) (g : D → D → Option D) : Prop :=
  ∀ (F : Hp) (d1 d2 r : D), g d1 d2 = some r → OpR X f fun x y H Q => Le F H ∧ RD X.K F x d1 ∧ RD X.K F y d2 ∧ ∀ z F' H', Gr F H F' H' → RD X.K F' z r → Q z H'
def bin (g : D → D → Option D) (m1 m2 : M D) : M D := bindM m1 fun x => bindM m2 fun y => liftO (g x y)
theorem tbin {f : Value → Value → Sem Value} {g : D → D → Option D} (ho : OpD X f g) {σ : L2.St} {H : Hp} {Q : VK} (h : tM X.K X.mg W ω .fz (bin g m1 m2) σ H Q) :
    tM X.K X.mg W ω .fz m1 σ H fun x H1 => tM X.K X.mg W ω .fz m2 σ H1 fun y H2 => ∃ F d1 d2 r, g d1 d2 = some r ∧ Le F H2 ∧ RD X.K F x d1 ∧ RD X.K F y d2 ∧ ∀ z F' H', Gr F H2 F' H' → RD X.K F' z r → Q z H' := by
  obtain ⟨F, q⟩ := tM_bind h
  refine ⟨F, tMF_mono q fun x H1 ⟨d1, F1, r1, q1⟩ => ⟨F1, tMF_mono (tMF_bind q1) fun y H2 ⟨d2, F2, l2, r2, q2⟩ => ?_⟩⟩
  obtain ⟨l, r, e, k⟩ := tMF_lift q2
  exact ⟨F2, d1, d2, r, e, l, r1.mono l2, r2, k⟩
theorem de_op {op : Operator} {g : D → D → Option D} (ho : OpD X (binaryOp op) g) (ha : DE X W ω a .fz m1) (hb : DE X W ω b .fz m2) : DE X W ω (.BinOp a op b pos) .fz (bin g m1 m2) := by
  refine ⟨fun pins s σ H Q I h => ?_⟩
  refine wpAny_BinOp (binT ha hb I (tbin ho h) fun v u s2 x y H2 I2 rx ry q => ?_)
  obtain ⟨F, d1, d2, r, e, q⟩ := q
  exact ho F d1 d2 r e pins s2 σ H2 x y v u Q I2 rx ry q
theorem de_cmp {op : CmpOp} {g : D → D → Option D} (ho : OpD X (compareOp op) g) (ha : DE X W ω a .fz m1) (hb : DE X W ω b .fz m2) (hm : behindInMarks op b = false) : DE X W ω (.Compare a [op] [b] pos) .fz (bin g m1 m2) := by
  refine ⟨fun pins s σ H Q I h => ?_⟩
  refine wpAny_Compare1 (binT ha hb I (tbin ho h) fun v u s2 x y H2 I2 rx ry q => ?_) hm
  obtain ⟨F, d1, d2, r, e, q⟩ := q
  exact ho F d1 d2 r e pins s2 σ H2 x y v u Q I2 rx ry q
/-- a one-place operator -/
def UnD (X : Cx) (f : Value → Sem Value) (g : D → Option D) : Prop :=
  ∀ (F : Hp) (d1 r : D), g d1 = some r → UnR X f fun x H Q => Le F H ∧ RD X.K F x d1 ∧ ∀ z F' H', Gr F H F' H' → RD X.K F' z r → Q z H'
def un1 (g : D → Option D) (m1 : M D) : M D := bindM m1 fun x => liftO (g x)
theorem tun {g : D → Option D} {σ : L2.St} {H : Hp} {Q : VK} (h : tM X.K X.mg W ω .fz (un1 g m1) σ H Q) :
    tM X.K X.mg W ω .fz m1 σ H fun x H1 => ∃ F d1 r, g d1 = some r ∧ Le F H1 ∧ RD X.K F x d1 ∧ ∀ z F' H', Gr F H1 F' H' → RD X.K F' z r → Q z H' := by
  obtain ⟨F, q⟩ := tM_bind h
  refine ⟨F, tMF_mono q fun x H1 ⟨d1, F1, r1, q1⟩ => ?_⟩
  obtain ⟨l, r, e, k⟩ := tMF_lift q1
  exact ⟨F1, d1, r, e, l, r1, k⟩
theorem de_un {op : UnaryOp} {g : D → Option D} (ho : UnD X (unaryOp op) g) (ha : DE X W ω a .fz m1) : DE X W ω (.UnaryOp op a pos) .fz (un1 g m1) := by
  refine ⟨fun pins s σ H Q I h => ?_⟩
  refine UnaryOp_ (thn (ha.run pins s σ H _ I (tun h)) fun v s1 ⟨x, H1, I1, r1, q1⟩ => ?_)
  obtain ⟨F, d1, r, e, q⟩ := q1
  exact ho F d1 r e pins s1 σ H1 x v Q I1 r1 q
/-! ### the operators -/
def mulOk (i j : Int) : Bool := decide (i.natAbs < 2 ^ 64) || decide (j.natAbs < 2 ^ 64)
def gAdd : D → D → Option D
  | .int i, .int j => some (.int (i + j))
  | .str x, .str y => if x.length + y.length ≤ sizeLine then some (.str (x ++ y)) else none
  | .lst xs, .lst ys => if xs.length + ys.length ≤ sizeLine then some (.lst (xs ++ ys)) else none
  | .tup xs, .tup ys => if xs.length + ys.length ≤ sizeLine then some (.tup (xs ++ ys)) else none
  | _, _ => none
def gSubI : D → D → Option D
  | .int i, .int j => some (.int (i - j))
  | _, _ => none
def gMul : D → D → Option D
  | .int i, .int j => if mulOk i j then some (.int (i * j)) else none
  | .lst xs, .int k => if -(2 ^ 63) ≤ k ∧ k < 2 ^ 63 ∧ xs.length * k.toNat ≤ sizeLine then some (.lst (List.replicate k.toNat xs).flatten) else none
  | _, _ => none
def gMod : D → D → Option D
  | .int i, .int j => if j ≠ 0 then some (.int (i.fmod j)) else none
  | _, _ => none
def gDiv : D → D → Option D
  | .int i, .int j => if j ≠ 0 ∧ j.natAbs < 1073741824 then some (.int (i.fdiv j)) else none
  | _, _ => none
def gPow : D → D → Option D
  | .int i, .int j => if 0 ≤ j ∧ j ≤ 1000000 ∧ i.natAbs < 2 ^ 64 then some (.int (i ^ j.toNat)) else none
  | _, _ => none
theorem OpR.imp {f : Value → Value → Sem Value} {r r' : R2} (h : OpR X f r) (k : ∀ x y H Q, r' x y H Q → r x y H Q) : OpR X f r' := fun pins s σ H x y v u Q I rx ry q => h pins s σ H x y v u Q I rx ry (k x y H Q q)
theorem opd_int {f : Value → Value → Sem Value} {C : Int → Int → Prop} {h : Int → Int → Int} {g : D → D → Option D} (ho : OpR X f (rI C fun i j => .int (h i j)))
    (hg : ∀ d1 d2 r, g d1 d2 = some r → ∃ i j, d1 = .int i ∧ d2 = .int j ∧ C i j ∧ r = .int (h i j)) : OpD X f g := fun F d1 d2 r e => by
  obtain ⟨i, j, rfl, rfl, hc, rfl⟩ := hg d1 d2 r e
  refine OpR.imp ho fun x y H Q ⟨l, r1, r2, q⟩ => ?_
  cases r1; cases r2
  exact ⟨i, j, rfl, rfl, hc, q _ F H (Gr.refl l) (.int _)⟩
theorem opd_int0 {f : Value → Value → Sem Value} {h : Int → Int → Int} {g : D → D → Option D} (ho : OpR X f (rI0 fun i j => .int (h i j)))
    (hg : ∀ d1 d2 r, g d1 d2 = some r → ∃ i j, d1 = .int i ∧ d2 = .int j ∧ r = .int (h i j)) : OpD X f g := fun F d1 d2 r e => by
  obtain ⟨i, j, rfl, rfl, rfl⟩ := hg d1 d2 r e
  refine OpR.imp ho fun x y H Q ⟨l, r1, r2, q⟩ => ?_
  cases r1; cases r2
  exact ⟨i, j, rfl, rfl, q _ F H (Gr.refl l) (.int _)⟩
theorem od_sub : OpD X (binaryOp .Sub) gSubI := opd_int0 op_sub fun d1 d2 r e => by
  unfold gSubI at e
  split at e
  · cases e; exact ⟨_, _, rfl, rfl, rfl⟩
  · cases e
theorem lt64 {i : Int} (h : i.natAbs < 2 ^ 64) : -(2 ^ 64) < i ∧ i < 2 ^ 64 := by omega
theorem od_mod : OpD X (binaryOp .Mod) gMod := opd_int op_modN fun d1 d2 r e => by
  unfold gMod at e
  split at e
  · split at e
    · rename_i h; cases e; exact ⟨_, _, rfl, rfl, h, rfl⟩
    · cases e
  · cases e
theorem od_div : OpD X (binaryOp .FloorDiv) gDiv := opd_int op_fdivN fun d1 d2 r e => by
  unfold gDiv at e
  split at e
  · split at e
    · rename_i h; cases e; exact ⟨_, _, rfl, rfl, h, rfl⟩
    · cases e
  · cases e
theorem od_pow : OpD X (binaryOp .Pow) gPow := opd_int op_pow fun d1 d2 r e => by
  unfold gPow at e
  split at e
  · split at e
    · rename_i h; cases e; exact ⟨_, _, rfl, rfl, h, rfl⟩
    · cases e
  · cases e
end
end DL
/-! DL: operators, arguments, displays, subscripts, slices, calls of built-ins. -/
namespace DL
open PySem PySem.Spec PyProof.Rows L2
section
variable {X : Cx} {W : WX} {ω : List Sh} {pos : Pos} {a b c : Expr} {m1 m2 m3 : M D}
theorem OpD.rule {f : Value → Value → Sem Value} {g : D → D → Option D} (h : ∀ (F : Hp) (d1 d2 r : D), g d1 d2 = some r → OpR X f fun x y H Q => Le F H ∧ RD X.K F x d1 ∧ RD X.K F y d2 ∧ ∀ z F' H', Gr F H F' H' → RD X.K F' z r → Q z H') : OpD X f g := h
/-- the four kinds of + -/
theorem od_add : OpD X (binaryOp .Add) gAdd := fun F d1 d2 r e => by
  unfold gAdd at e
  split at e
  · cases e
    refine OpR.imp op_add fun x y H Q ⟨l, r1, r2, q⟩ => ?_
    cases r1; cases r2
    exact ⟨_, _, rfl, rfl, q _ F H (Gr.refl l) (.int _)⟩
  · split at e
    · rename_i h
      cases e
      refine OpR.imp op_add_str fun x y H Q ⟨l, r1, r2, q⟩ => ?_
      cases r1; cases r2
      exact ⟨_, _, rfl, rfl, h, q _ F H (Gr.refl l) (.str _)⟩
    · cases e
  · split at e
    · rename_i h
      cases e
      refine OpR.imp op_cat fun x y H Q ⟨l, r1, r2, q⟩ => ?_
      cases r1 with
      | lst h1 s1 =>
        cases r2 with
        | lst h2 s2 =>
          refine ⟨_, _, _, _, rfl, rfl, l _ _ h1, l _ _ h2, by rw [s1.length, s2.length]; exact h, fun p np => ?_⟩
          exact q _ _ _ (Gr.one l np) (.lst upd_same ((s1.append s2).mono (Le.upd (l.none np))))
    · cases e
  · split at e
    · rename_i h
      cases e
      refine OpR.imp op_catA fun x y H Q ⟨l, r1, r2, q⟩ => ?_
      cases r1 with
      | tup h1 s1 =>
        cases r2 with
        | tup h2 s2 =>
          refine ⟨_, _, _, _, rfl, rfl, SqT.mono l h1, SqT.mono l h2, by rw [s1.length, s2.length]; exact h, fun e => ?_, fun _ e => ?_, fun _ _ p np => ?_⟩
          · subst e
            cases s1
            exact q _ F H (Gr.refl l) (.tup h2 s2)
          · subst e
            cases s2
            refine q _ F H (Gr.refl l) ?_
            rw [List.append_nil]
            exact .tup h1 s1
          · exact q _ _ _ (Gr.one l np) (.tup (SqT.of upd_same) ((s1.append s2).mono (Le.upd (l.none np))))
    · cases e
  · cases e
theorem RDs.rep {K : Fg} {F : Hp} {xs : List V} {ds : List D} (h : RDs K F xs ds) : ∀ k : Nat, RDs K F (List.replicate k xs).flatten (List.replicate k ds).flatten
  | 0 => .nil
  | k + 1 => by
    rw [List.replicate_succ, List.replicate_succ, List.flatten_cons, List.flatten_cons]
    exact h.append (RDs.rep h k)
theorem od_mul : OpD X (binaryOp .Mult) gMul := fun F d1 d2 r e => by
  unfold gMul at e
  split at e
  · split at e
    · rename_i i j h
      cases e
      refine OpR.imp op_mul fun x y H Q ⟨l, r1, r2, q⟩ => ?_
      cases r1; cases r2
      refine ⟨_, _, rfl, rfl, ?_, q _ F H (Gr.refl l) (.int _)⟩
      unfold mulOk at h
      rw [Bool.or_eq_true] at h
      rcases h with h | h
      · exact .inl (lt64 (of_decide_eq_true h))
      · exact .inr (lt64 (of_decide_eq_true h))
    · cases e
  · split at e
    · rename_i h
      cases e
      refine OpR.imp op_rep fun x y H Q ⟨l, r1, r2, q⟩ => ?_
      cases r2
      cases r1 with
      | lst h1 s1 =>
        refine ⟨_, _, _, rfl, rfl, l _ _ h1, h.1, h.2.1, by rw [s1.length]; exact h.2.2, fun p np => ?_⟩
        exact q _ _ _ (Gr.one l np) (.lst upd_same ((s1.rep _).mono (Le.upd (l.none np))))
    · cases e
  · cases e
/-! ### comparisons -/
def gInt (p : Int → Int → Bool) : D → D → Option D
  | .int i, .int j => some (.bl (p i j))
  | _, _ => none
theorem od_cmp {f : Value → Value → Sem Value} {p : Int → Int → Bool} (ho : OpR X f (rI0 fun i j => .bl (p i j))) : OpD X f (gInt p) := fun F d1 d2 r e => by
  unfold gInt at e
  split at e
  · cases e
    refine OpR.imp ho fun x y H Q ⟨l, r1, r2, q⟩ => ?_
    cases r1; cases r2
    exact ⟨_, _, rfl, rfl, q _ F H (Gr.refl l) (.bl _)⟩
  · cases e
abbrev gLt := gInt fun i j => decide (i < j)
abbrev gLe := gInt fun i j => decide (i ≤ j)
abbrev gGt := gInt fun i j => decide (j < i)
abbrev gGe := gInt fun i j => decide (j ≤ i)
theorem od_lt : OpD X (compareOp .Lt) gLt := od_cmp op_lt
theorem od_le : OpD X (compareOp .LtE) gLe := od_cmp op_le
theorem od_gt : OpD X (compareOp .Gt) gGt := od_cmp op_gt
theorem od_ge : OpD X (compareOp .GtE) gGe := od_cmp op_ge
/-- plain data that == may look through -/
def okD (d : D) : Bool := plainD d && SeqAt.shaped (toP d)
def eqD (x y : D) : Bool := PyData.eqv (toP x) (toP y)
def gEq : D → D → Option D := fun x y => if okD x && okD y then some (.bl (eqD x y)) else none
def gNe : D → D → Option D := fun x y => if okD x && okD y then some (.bl (!eqD x y)) else none
theorem okD.dp {K : Fg} {F H : Hp} {v : V} {d : D} (r : RD K F v d) (l : Le F H) (h : okD d = true) : Dp K H v (toP d) ∧ SeqAt.shaped (toP d) = true := by
  unfold okD at h
  rw [Bool.and_eq_true] at h
  exact ⟨(r.mono l).dp h.1, h.2⟩
theorem od_eq (hu : X.A.units + 64 < cLine) : OpD X (compareOp .Eq) gEq := fun F d1 d2 r e => by
  unfold gEq at e
  split at e
  · rename_i h
    cases e
    rw [Bool.and_eq_true] at h
    refine OpR.imp (op_eqD hu) fun x y H Q ⟨l, r1, r2, q⟩ => ?_
    obtain ⟨a1, a2⟩ := okD.dp r1 l h.1
    obtain ⟨b1, b2⟩ := okD.dp r2 l h.2
    exact ⟨_, _, a1, b1, a2, b2, q _ F H (Gr.refl l) (.bl _)⟩
  · cases e
theorem od_ne (hu : X.A.units + 64 < cLine) : OpD X (compareOp .NotEq) gNe := fun F d1 d2 r e => by
  unfold gNe at e
  split at e
  · rename_i h
    cases e
    rw [Bool.and_eq_true] at h
    refine OpR.imp (op_neD hu) fun x y H Q ⟨l, r1, r2, q⟩ => ?_
    obtain ⟨a1, a2⟩ := okD.dp r1 l h.1
    obtain ⟨b1, b2⟩ := okD.dp r2 l h.2
    exact ⟨_, _, a1, b1, a2, b2, q _ F H (Gr.refl l) (.bl _)⟩
  · cases e
/-- is None -/
def isNon : D → Bool
  | .non => true
  | _ => false
def gIsN : D → D → Option D := fun x y => match y with | .non => some (.bl (isNon x)) | _ => none
def gNotN : D → D → Option D := fun x y => match y with | .non => some (.bl (!isNon x)) | _ => none
theorem RD.isNon {K : Fg} {F : Hp} {v : V} {d : D} (r : RD K F v d) : decide (v = .non) = DL.isNon d := by
  cases r <;> first | rfl | exact decide_eq_false (fun z => nomatch z)
theorem od_isN : OpD X (compareOp .Is) gIsN := fun F d1 d2 r e => by
  unfold gIsN at e
  split at e
  · cases e
    refine OpR.imp op_isN fun x y H Q ⟨l, r1, r2, q⟩ => ?_
    cases r2
    refine ⟨rfl, ?_⟩
    rw [RD.isNon r1]
    exact q _ F H (Gr.refl l) (.bl _)
  · cases e
theorem od_notN : OpD X (compareOp .IsNot) gNotN := fun F d1 d2 r e => by
  unfold gNotN at e
  split at e
  · cases e
    refine OpR.imp op_notN fun x y H Q ⟨l, r1, r2, q⟩ => ?_
    cases r2
    refine ⟨rfl, ?_⟩
    rw [RD.isNon r1]
    exact q _ F H (Gr.refl l) (.bl _)
  · cases e
/-- -x -/
def gNeg : D → Option D
  | .int i => some (.int (-i))
  | _ => none
theorem ud_neg : UnD X (unaryOp .USub) gNeg := fun F d1 r e => by
  unfold gNeg at e
  split at e
  · cases e
    intro pins s σ H x v Q I rx ⟨l, r1, q⟩
    cases r1
    exact un_neg pins s σ H _ v Q I rx ⟨_, rfl, q _ F H (Gr.refl l) (.int _)⟩
  · cases e
/-! ### several expressions -/
def tAF (K : Fg) (mg : Str → Option Value) (W : WX) (ω : List Sh) (F : Hp) (m : M (List D)) : TA := fun σ H Q =>
  ∃ G ρ, Sim K ω F G H ρ σ ∧ (m ρ).sat (fun ds ρ' => ∀ vs F' H', Le F F' → Sim K ω F' G H' ρ' σ → RDs K F' vs ds → Q vs H') (Zx K mg W ω F G σ)
def tA (K : Fg) (mg : Str → Option Value) (W : WX) (ω : List Sh) (m : M (List D)) : TA := fun σ H Q => ∃ F, tAF K mg W ω F m σ H Q
abbrev DA (X : Cx) (W : WX) (ω : List Sh) (es : List Expr) (m : M (List D)) : Prop := PA X es (tA X.K X.mg W ω m)
def consM (m : M D) (ms : M (List D)) : M (List D) := bindM m fun d => bindM ms fun ds => pureM (d :: ds)
def nilM : M (List D) := pureM []
theorem PA.imp {es : List Expr} {t t' : TA} (h : PA X es t) (k : ∀ σ H Q, t' σ H Q → t σ H Q) : PA X es t' := ⟨fun pos pins s σ H Q I q => h.run pos pins s σ H Q I (k σ H Q q)⟩
theorem da_nil : DA X W ω [] nilM := PA.imp pa_nil fun σ H Q ⟨F, G, ρ, S, q⟩ => q [] F H (Le.refl _) S .nil
/-- a first expression, then what hangs on its data -/
theorem tA_cons {m : M D} {k : D → M (List D)} {σ : L2.St} {H : Hp} {Q : List V → Hp → Prop} (h : tA X.K X.mg W ω (bindM m k) σ H Q) :
    tM X.K X.mg W ω .fz m σ H fun x H1 => ∃ d F1, RD X.K F1 x d ∧ tAF X.K X.mg W ω F1 (k d) σ H1 Q := by
  obtain ⟨F, G, ρ, S, h⟩ := h
  refine ⟨F, G, ρ, S, Res.sat_mono (Res.sat_bind h) (fun d ρ1 q v F1 H1 l S1 => ?_) fun _ _ z => z⟩
  obtain ⟨r, S2⟩ := S1.top
  exact ⟨d, F1, r, G, ρ1, S2, Res.sat_mono q (fun ds ρ' p vs F' H' l' S' => p vs F' H' (l.trans l') S') fun _ _ z => z.le l⟩
theorem da_cons {e : Expr} {es : List Expr} {m : M D} {ms : M (List D)} (h : DE X W ω e .fz m) (hs : DA X W ω es ms) (he : starEach (e :: es) X.env = (false, eval e X.env) :: starEach es X.env := by rfl) : DA X W ω (e :: es) (consM m ms) :=
  PA.imp (pa_cons h hs he) fun σ H Q q => by
    obtain ⟨F, q⟩ := tA_cons q
    refine ⟨F, tMF_mono q fun x H1 ⟨d, F1, r, G, ρ, S, q1⟩ => ⟨F1, G, ρ, S, ?_⟩⟩
    refine Res.sat_mono (Res.sat_bind q1) (fun ds ρ1 p vs F2 H2 l S2 rs => ?_) fun _ _ z => z
    exact p (x :: vs) F2 H2 l S2 (.cons (r.mono l) rs)
/-- f of several values -/
def CallD (X : Cx) (f : Value) (g : List D → Option D) : Prop :=
  ∀ (F : Hp) (ds : List D) (r : D), g ds = some r → CallR X f fun xs H Q => Le F H ∧ RDs X.K F xs ds ∧ ∀ z F' H', Gr F H F' H' → RD X.K F' z r → Q z H'
def appM (g : List D → Option D) (ms : M (List D)) : M D := bindM ms fun ds => liftO (g ds)
theorem tA_app {g : List D → Option D} {ms : M (List D)} {σ : L2.St} {H : Hp} {Q : VK} (h : tM X.K X.mg W ω .fz (appM g ms) σ H Q) :
    tA X.K X.mg W ω ms σ H fun xs H1 => ∃ F ds r, g ds = some r ∧ Le F H1 ∧ RDs X.K F xs ds ∧ ∀ z F' H', Gr F H1 F' H' → RD X.K F' z r → Q z H' := by
  obtain ⟨F, G, ρ, S, h⟩ := h
  refine ⟨F, G, ρ, S, Res.sat_mono (Res.sat_bind h) (fun ds ρ1 q vs F1 H1 l S1 rs => ?_) fun _ _ z => z⟩
  cases e : g ds with
  | none => rw [e] at q; exact q.elim
  | some r =>
    rw [e] at q
    exact ⟨F1, ds, r, e, S1.fH, rs, fun z F' H' g' rz => q z F' H' (l.trans g'.lf) ((S1.gr g').push rz)⟩
theorem de_callB {x : Str} {p : Pos} {e : Expr} {es : List Expr} {ms : M (List D)} {id : String} {g : List D → Option D} (hc : CallD X (.builtin id) g) (hg : Gl X x) (hm : X.mg x = none) (hv : bootBuiltins x = some (.builtin id)) (ha : DA X W ω (e :: es) ms)
    (hn : x ≠ "__name__" := by decide) (hdb : (x == ("__debug__" : Str)) = false := by decide) (he : starEach (e :: es) X.env = (false, eval e X.env) :: starEach es X.env := by rfl) (hpl : (backTo pos (starEach es X.env)).any (·.1) = false := by rfl) :
    DE X W ω (.Call (.Name x p) (e :: es) [] pos) .fz (appM g ms) := by
  refine ⟨fun pins s σ H Q I h => ?_⟩
  refine wpAny_Call_Name_kw (ld_blt I hg hm hv ?_ hn hdb)
  exact PyProof.Rows.callWith_builtin1 (thn (ha.run pos pins s σ H _ I (tA_app h)) fun us s1 ⟨vs, H1, I1, r1, F, ds, r, e, q1⟩ => hc F ds r e pins s1 σ H1 vs us Q I1 r1 q1) he hpl
theorem de_callTy {x : Str} {p : Pos} {e : Expr} {es : List Expr} {ms : M (List D)} {T : String} {g : List D → Option D} (hc : CallD X (.type T) g) (hg : Gl X x) (hm : X.mg x = none) (hv : bootBuiltins x = some (.type T)) (ha : DA X W ω (e :: es) ms)
    (hn : x ≠ "__name__" := by decide) (hdb : (x == ("__debug__" : Str)) = false := by decide) (he : starEach (e :: es) X.env = (false, eval e X.env) :: starEach es X.env := by rfl) (hpl : (backTo pos (starEach es X.env)).any (·.1) = false := by rfl) :
    DE X W ω (.Call (.Name x p) (e :: es) [] pos) .fz (appM g ms) := by
  refine ⟨fun pins s σ H Q I h => ?_⟩
  refine wpAny_Call_Name_kw (ld_blt I hg hm hv ?_ hn hdb)
  exact PyProof.Rows.callWith_type1 (thn (ha.run pos pins s σ H _ I (tA_app h)) fun us s1 ⟨vs, H1, I1, r1, F, ds, r, e, q1⟩ => hc F ds r e pins s1 σ H1 vs us Q I1 r1 q1) he hpl
/-! ### displays -/
def gTup (ds : List D) : Option D := if ds.length ≤ sizeLine then some (.tup ds) else none
def gLst (ds : List D) : Option D := if ds.length ≤ sizeLine then some (.lst ds) else none
theorem de_tup {es : List Expr} {ms : M (List D)} {k} (ha : DA X W ω es ms) : DE X W ω (.Tuple es k pos) .fz (appM gTup ms) :=
  PE.imp (pe_tup ha) fun σ H Q q => by
    refine (fun (⟨F, G, ρ, S, q⟩ : tA X.K X.mg W ω ms σ H _) => (⟨F, G, ρ, S, Res.sat_mono q (fun ds ρ' p vs F' H' l S' rs => ?_) fun _ _ z => z⟩ : tA X.K X.mg W ω ms σ H _)) (tA_app q)
    obtain ⟨F2, ds2, r, e, l2, rs2, k2⟩ := p vs F' H' l S' rs
    unfold gTup at e
    split at e
    · rename_i h
      cases e
      refine ⟨by rw [rs2.length]; exact h, fun pp np => k2 _ _ _ (Gr.one l2 np) (.tup (SqT.of upd_same) (rs2.mono (Le.upd (l2.none np))))⟩
    · cases e
theorem de_lst {es : List Expr} {ms : M (List D)} (ha : DA X W ω es ms) : DE X W ω (.List es pos) .fz (appM gLst ms) :=
  PE.imp (pe_lst ha) fun σ H Q q => by
    refine (fun (⟨F, G, ρ, S, q⟩ : tA X.K X.mg W ω ms σ H _) => (⟨F, G, ρ, S, Res.sat_mono q (fun ds ρ' p vs F' H' l S' rs => ?_) fun _ _ z => z⟩ : tA X.K X.mg W ω ms σ H _)) (tA_app q)
    obtain ⟨F2, ds2, r, e, l2, rs2, k2⟩ := p vs F' H' l S' rs
    unfold gLst at e
    split at e
    · rename_i h
      cases e
      refine ⟨by rw [rs2.length]; exact h, fun pp np => k2 _ _ _ (Gr.one l2 np) (.lst upd_same (rs2.mono (Le.upd (l2.none np))))⟩
    · cases e
/-! ### subscripts, slices -/
def gIx : D → D → Option D
  | .lst xs, .int i => atI xs i
  | .tup xs, .int i => atI xs i
  | .str z, .int i => if z.length ≤ sizeLine then (atI z.cps.toList i).map fun c => .str ⟨#[c]⟩ else none
  | _, _ => none
theorem RDs.at {K : Fg} {F : Hp} {vs : List V} {ds : List D} {i : Int} {d : D} (h : RDs K F vs ds) (e : atI ds i = some d) : ∃ v, atI vs i = some v ∧ RD K F v d := by
  unfold atI at e ⊢
  rw [h.length]
  cases q : ixN ds.length i with
  | none => rw [q] at e; cases e
  | some j => rw [q] at e; exact h.get e
theorem de_ix (ha : DE X W ω a .fz m1) (hb : DE X W ω b .fz m2) (hs : PlainIx b) : DE X W ω (.Subscript a b pos) .fz (bin gIx m1 m2) := by
  refine PE.imp (pe_ix ix_seq ha hb hs) fun σ H Q q => ?_
  obtain ⟨F, q⟩ := tM_bind q
  refine ⟨F, tMF_mono q fun x H1 ⟨d1, F1, r1, q1⟩ => ⟨F1, tMF_mono (tMF_bind q1) fun y H2 ⟨d2, F2, l2, r2, q2⟩ => ?_⟩⟩
  obtain ⟨l, r, e, k⟩ := tMF_lift q2
  unfold gIx at e
  split at e
  · cases r2
    cases r1 with
    | lst h1 s1 =>
      obtain ⟨v, ev, rv⟩ := (s1.mono l2).at e
      exact .inl ⟨_, _, _, v, rfl, rfl, SqL.of (l _ _ (l2 _ _ h1)), ev, k _ _ _ (Gr.refl l) rv⟩
  · cases r2
    cases r1 with
    | tup h1 s1 =>
      obtain ⟨v, ev, rv⟩ := (s1.mono l2).at e
      exact .inr (.inl ⟨_, _, _, v, rfl, rfl, SqT.mono (l2.trans l) h1, ev, k _ _ _ (Gr.refl l) rv⟩)
  · split at e
    · rename_i i hz
      cases r2; cases r1
      cases q : atI _ _ with
      | none => rw [q] at e; cases e
      | some c =>
        rw [q] at e
        cases e
        exact .inr (.inr ⟨_, _, c, rfl, rfl, hz, q, k _ _ _ (Gr.refl l) (.str _)⟩)
    · cases e
  · cases e
end
end DL
/-! DL: what is owned, one name at a time; tests; statements. -/
namespace DL
open PySem PySem.Spec PyProof.Rows L2
section
variable {K : Fg} {ω : List Sh} {F F' G H H' : Hp} {ρ : Rho} {σ : L2.St} {sh : Sh} {v : V} {d : D}
/-- one name's data apart from the others', which may be put back changed -/
theorem OwnL.split {fp : List Addr} (o : OwnL K F H ω σ ρ fp) : ∀ {i : Nat} {s : Sh} {d : D}, ω[i]? = some s → ρ[i]? = some (some d) →
    ∃ (v : V) (fi fo : List Addr), σ[i]? = some (some v) ∧ Own K F H s v d fi ∧ (∀ b ∈ fi, b ∉ fo) ∧ (∀ b, b ∈ fp ↔ b ∈ fi ∨ b ∈ fo) ∧
      ∀ F' H' d' fi', Le F F' → (∀ b ∈ fo, ∀ u, H b = some u → H' b = some u) → Own K F' H' s v d' fi' → (∀ b ∈ fi', b ∉ fo) →
        ∃ fp', OwnL K F' H' ω σ (ρ.set i (some d')) fp' ∧ ∀ b, b ∈ fp' ↔ b ∈ fi' ∨ b ∈ fo := by
  induction o with
  | nil => intro i s d h; simp at h
  | @un s0 x ω σ ρ fp o ih =>
    intro i s d h1 h2
    cases i with
    | zero => simp at h2
    | succ i =>
      obtain ⟨v, fi, fo, e, w, n, m, k⟩ := ih (i := i) (by simpa using h1) (by simpa using h2)
      refine ⟨v, fi, fo, by simpa using e, w, n, m, fun F' H' d' fi' l q w' n' => ?_⟩
      obtain ⟨fp', o', m'⟩ := k F' H' d' fi' l q w' n'
      exact ⟨fp', .un o', m'⟩
  | @bd s0 v0 d0 ω σ ρ f1 f2 w0 o n0 ih =>
    intro i s d h1 h2
    cases i with
    | zero =>
      simp at h1 h2
      subst h1 h2
      refine ⟨v0, f1, f2, rfl, w0, n0, fun b => List.mem_append, fun F' H' d' fi' l q w' n' => ⟨fi' ++ f2, .bd w' (o.mono l q) n', fun b => List.mem_append⟩⟩
    | succ i =>
      obtain ⟨v, fi, fo, e, w, n, m, k⟩ := ih (i := i) (by simpa using h1) (by simpa using h2)
      refine ⟨v, fi, f1 ++ fo, by simpa using e, w, fun b hb z => ?_, fun b => ?_, fun F' H' d' fi' l q w' n' => ?_⟩
      · rcases List.mem_append.mp z with z | z
        · exact n0 b z ((m b).mpr (.inl hb))
        · exact n b hb z
      · rw [List.mem_append, List.mem_append, m b]
        constructor
        · rintro (z | z | z)
          · exact .inr (.inl z)
          · exact .inl z
          · exact .inr (.inr z)
        · rintro (z | z | z)
          · exact .inr (.inl z)
          · exact .inl z
          · exact .inr (.inr z)
      · obtain ⟨fp', o', m'⟩ := k F' H' d' fi' l (fun b hb => q b (List.mem_append_right _ hb)) w' fun b hb z => n' b hb (List.mem_append_right _ z)
        refine ⟨f1 ++ fp', .bd (w0.mono l fun b hb => q b (List.mem_append_left _ hb)) o' fun b hb z => ?_, fun b => ?_⟩
        · rcases (m' b).mp z with z | z
          · exact n' b z (List.mem_append_left _ hb)
          · exact n0 b hb ((m b).mpr (.inr z))
        · rw [List.mem_append, List.mem_append, m' b]
          constructor
          · rintro (z | z | z)
            · exact .inr (.inl z)
            · exact .inl z
            · exact .inr (.inr z)
          · rintro (z | z | z)
            · exact .inr (.inl z)
            · exact .inl z
            · exact .inr (.inr z)
/-- the shape without its pin -/
def coreSh : Sh → Sh
  | .pin _ s => coreSh s
  | s => s
theorem Own.core {K : Fg} {F H : Hp} {d : D} {fi : List Addr} : ∀ {s : Sh} {v : V}, Own K F H s v d fi → Own K F H (coreSh s) v d fi
  | .fz, _, w => w
  | .lst _, _, w => w
  | .dct _, _, w => w
  | .ins _, _, w => w
  | .pin a s, _, w => by cases w with | pin w => exact Own.core (s := s) w
theorem Own.uncore {a : Addr} {d' : D} {fi fi' : List Addr} {F' H' : Hp} : ∀ {s : Sh}, Own K F H s (.ref a) d fi → Own K F' H' (coreSh s) (.ref a) d' fi' → Own K F' H' s (.ref a) d' fi'
  | .fz, _, w => w
  | .lst _, _, w => w
  | .dct _, _, w => w
  | .ins _, _, w => w
  | .pin _ s, q, w => by cases q with | pin q => exact .pin (Own.uncore (s := s) q w)
/-- a list that a name owns: it may be changed -/
theorem Sim.lst (S : Sim K ω F G H ρ σ) {i : Nat} {s : Sh} {ds : List D} (h1 : ω[i]? = some s) (hs : coreSh s = .lst .fz) (h2 : ρ[i]? = some (some (.lst ds))) :
    ∃ a xs, σ[i]? = some (some (.ref a)) ∧ H a = some (.lst xs) ∧ RDs K F xs ds ∧
      ∀ F' H' xs' ds', Gr F H F' H' → RDs K F' xs' ds' → Sim K ω F' G (upd H' a (.lst xs')) (ρ.set i (some (.lst ds'))) σ := by
  obtain ⟨⟨fp, o, n⟩, l, g, dj⟩ := S
  obtain ⟨v, fi, fo, e, w, nn, m, k⟩ := o.split h1 h2
  have wc := w.core
  rw [hs] at wc
  cases wc with
  | @lst _ a xs _ fq ha r na =>
    obtain ⟨rs, e0⟩ := r.fz_rds
    subst e0
    refine ⟨a, xs, e, ha, rs, fun F' H' xs' ds' gr rs' => ?_⟩
    have fa : F a = none := (n a ((m a).mpr (.inl (List.mem_cons_self)))).1
    have ga : G a = none := (n a ((m a).mpr (.inl (List.mem_cons_self)))).2
    have fa' : F' a = none := gr.new a fa (by rw [ha]; exact fun z => nomatch z)
    obtain ⟨fp', o', m'⟩ := k F' (upd H' a (.lst xs')) (.lst ds') [a] gr.lf (fun b hb u q => by
      rw [upd_ne (fun z => nn a (List.mem_cons_self) (by rw [← z]; exact hb))]; exact gr.lh b u q)
      (w.uncore (by rw [hs]; exact .lst upd_same (Owns.of_rds rs') (fun z => by cases z))) (fun b hb => nn b hb)
    refine ⟨⟨fp', o', fun b hb => ?_⟩, fun b u q => ?_, fun b u q => ?_, fun b q => ?_⟩
    · rcases (m' b).mp hb with z | z
      · have : b = a := by simpa using z
        subst this; exact ⟨fa', ga⟩
      · have q := n b ((m b).mpr (.inr z))
        refine ⟨gr.new b q.1 fun y => ?_, q.2⟩
        obtain ⟨u, hu⟩ := o.live b ((m b).mpr (.inr z))
        rw [hu] at y; cases y
    · rw [upd_ne (ne_of_none q fa')]; exact gr.fh b u q
    · rw [upd_ne (ne_of_none q ga)]; exact gr.lh b u (g b u q)
    · refine gr.new b (dj b q) fun y => ?_
      cases e : G b with
      | none => exact q e
      | some u => rw [g b u e] at y; cases y
/-- slot i is set to what reads as frozen data, or to nothing known -/
theorem OwnL.put {fp : List Addr} {x : Option V} {y : Option D} (o : OwnL K F H ω σ ρ fp) (r : y = none ∨ ∃ v d, x = some v ∧ y = some d ∧ RD K F v d) : ∀ {i : Nat}, ω[i]? = some .fz → OwnL K F H ω (σ.set i x) (ρ.set i y) fp := by
  induction o with
  | nil => intro i h; simp at h
  | @un s0 x0 ω σ ρ fp o ih =>
    intro i h
    cases i with
    | zero =>
      simp at h
      subst h
      rcases r with rfl | ⟨v, d, rfl, rfl, r⟩
      · exact .un o
      · have := OwnL.bd (.fz r) o (fun _ m => by cases m)
        simpa using this
    | succ i => exact .un (ih (by simpa using h))
  | @bd s0 v0 d0 ω σ ρ f1 f2 w0 o n0 ih =>
    intro i h
    cases i with
    | zero =>
      simp at h
      subst h
      cases w0 with
      | fz _ =>
        rcases r with rfl | ⟨v, d, rfl, rfl, r⟩
        · exact .un o
        · exact .bd (.fz r) o (fun _ m => by cases m)
    | succ i => exact .bd w0 (ih (by simpa using h)) n0
theorem Sim.put {x : Option V} {y : Option D} (S : Sim K ω F G H ρ σ) {i : Nat} (h : ω[i]? = some .fz) (r : y = none ∨ ∃ v d, x = some v ∧ y = some d ∧ RD K F v d) : Sim K ω F G H (ρ.set i y) (σ.set i x) := by
  obtain ⟨⟨fp, o, n⟩, a, b, dj⟩ := S
  exact ⟨⟨fp, o.put r h, n⟩, a, b, dj⟩
end
/-! ### tests -/
section
variable {X : Cx} {W : WX} {ω : List Sh} {pos : Pos} {a b c : Expr} {m1 m2 m3 : M D}
def tTF (K : Fg) (mg : Str → Option Value) (W : WX) (ω : List Sh) (F : Hp) (m : M Bool) : TT := fun σ H Q =>
  ∃ G ρ, Sim K ω F G H ρ σ ∧ (m ρ).sat (fun b ρ' => ∀ F' H', Le F F' → Sim K ω F' G H' ρ' σ → Q b H') (Zx K mg W ω F G σ)
def tT (K : Fg) (mg : Str → Option Value) (W : WX) (ω : List Sh) (m : M Bool) : TT := fun σ H Q => ∃ F, tTF K mg W ω F m σ H Q
abbrev DT (X : Cx) (W : WX) (ω : List Sh) (e : Expr) (m : M Bool) : Prop := PT X e (tT X.K X.mg W ω m)
abbrev DW (X : Cx) (W : WX) (ω : List Sh) (e : Expr) (m : M Bool) : Prop := PW X e (tT X.K X.mg W ω m)
theorem PT.imp {e : Expr} {t t' : TT} (h : PT X e t) (k : ∀ σ H Q, t' σ H Q → t σ H Q) : PT X e t' := ⟨fun pins s σ H Q I q => h.run pins s σ H Q I (k σ H Q q)⟩
theorem PW.imp {e : Expr} {t t' : TT} (h : PW X e t) (k : ∀ σ H Q, t' σ H Q → t σ H Q) : PW X e t' := ⟨fun w pins s σ H Q I q => h.run w pins s σ H Q I (k σ H Q q)⟩
/-- truth by data -/
def truD : D → Option Bool
  | .non => some false
  | .bl b => some b
  | .int i => some (i != 0)
  | .str y => if y.length ≤ sizeLine then some ((y.length : Int) != 0) else none
  | .lst xs => some (!xs.isEmpty)
  | .tup xs => some (!xs.isEmpty)
  | .dK xs => some (!xs.isEmpty)
  | _ => none
theorem RDs.isEmpty {K : Fg} {F : Hp} {vs : List V} {ds : List D} (h : RDs K F vs ds) : vs.isEmpty = ds.isEmpty := by
  cases h <;> rfl
theorem truD.ok {K : Fg} {F H : Hp} {v : V} {d : D} {k : Bool} (r : RD K F v d) (l : Le F H) (e : truD d = some k) : TruV K v H k := by
  unfold truD at e
  split at e
  · cases e; cases r; rfl
  · cases e; cases r; rfl
  · cases e; cases r; rfl
  · split at e
    · rename_i h; cases e; cases r; exact ⟨h, rfl⟩
    · cases e
  · cases e
    cases r with
    | lst h s => exact .inl ⟨_, SqL.of (l _ _ h), by rw [s.isEmpty]⟩
  · cases e
    cases r with
    | tup h s => exact .inr (.inl ⟨_, SqT.mono l h, by rw [s.isEmpty]⟩)
  · cases e
    cases r with
    | dK h e s =>
      refine .inr (.inr ⟨_, l _ _ h, ?_⟩)
      rename_i kvs
      cases kvs with
      | nil => cases ‹List (Key × D)› with
        | nil => rfl
        | cons _ _ => simp at e
      | cons _ _ => cases ‹List (Key × D)› with
        | nil => simp at e
        | cons _ _ => rfl
  · cases e
def truM (m : M D) : M Bool := bindM m fun d => liftO (truD d)
/-- a first expression, then a test -/
theorem tT_bind {m : M D} {k : D → M Bool} {σ : L2.St} {H : Hp} {Q : Bool → Hp → Prop} (h : tT X.K X.mg W ω (bindM m k) σ H Q) :
    tM X.K X.mg W ω .fz m σ H fun x H1 => ∃ d F1, RD X.K F1 x d ∧ tTF X.K X.mg W ω F1 (k d) σ H1 Q := by
  obtain ⟨F, G, ρ, S, h⟩ := h
  refine ⟨F, G, ρ, S, Res.sat_mono (Res.sat_bind h) (fun d ρ1 q v F1 H1 l S1 => ?_) fun _ _ z => z⟩
  obtain ⟨r, S2⟩ := S1.top
  exact ⟨d, F1, r, G, ρ1, S2, Res.sat_mono q (fun ds ρ' p F' H' l' S' => p F' H' (l.trans l') S') fun _ _ z => z.le l⟩
theorem tTF_bindT {F : Hp} {m : M Bool} {k : Bool → M Bool} {σ : L2.St} {H : Hp} {Q : Bool → Hp → Prop} (h : tTF X.K X.mg W ω F (bindM m k) σ H Q) :
    tTF X.K X.mg W ω F m σ H fun x H1 => ∃ F1, tTF X.K X.mg W ω F1 (k x) σ H1 Q := by
  obtain ⟨G, ρ, S, h⟩ := h
  refine ⟨G, ρ, S, Res.sat_mono (Res.sat_bind h) (fun d ρ1 q F1 H1 l S1 => ?_) fun _ _ z => z⟩
  exact ⟨F1, G, ρ1, S1, Res.sat_mono q (fun ds ρ' p F' H' l' S' => p F' H' (l.trans l') S') fun _ _ z => z.le l⟩
theorem tTF_pure {F : Hp} {b : Bool} {σ : L2.St} {H : Hp} {Q : Bool → Hp → Prop} (h : tTF X.K X.mg W ω F (pureM b) σ H Q) : Q b H := by
  obtain ⟨G, ρ, S, h⟩ := h
  exact h F H (Le.refl _) S
theorem tTF_lift {F : Hp} {o : Option Bool} {σ : L2.St} {H : Hp} {Q : Bool → Hp → Prop} (h : tTF X.K X.mg W ω F (liftO o) σ H Q) : Le F H ∧ ∃ b, o = some b ∧ Q b H := by
  obtain ⟨G, ρ, S, h⟩ := h
  cases o with
  | none => exact h.elim
  | some b => exact ⟨S.fH, b, rfl, h F H (Le.refl _) S⟩
theorem dt_truth (ha : DE X W ω a .fz m1) (he : ∀ whole, isTrue a X.env whole = (do let v ← whole; standAt a.pos; holding [v] (truthy v)) := by intro _; rfl) : DT X W ω a (truM m1) :=
  PT.imp (pt_truth ha he) fun σ H Q q => by
    obtain ⟨F, q⟩ := tT_bind q
    refine ⟨F, tMF_mono q fun x H1 ⟨d, F1, r, q1⟩ => ?_⟩
    obtain ⟨l, b, e, q2⟩ := tTF_lift q1
    exact ⟨b, truD.ok r l e, q2⟩
/-- a comparison as a test -/
theorem dt_cmp {op : CmpOp} {g : D → D → Option D} (ho : OpD X (compareOp op) g) (ha : DE X W ω a .fz m1) (hb : DE X W ω b .fz m2) (hm : behindInMarks op b = false) : DT X W ω (.Compare a [op] [b] pos) (truM (bin g m1 m2)) := by
  refine ⟨fun pins s σ H Q I h => ?_⟩
  obtain ⟨F, q⟩ := tbin ho (tT_bind h)
  refine wpAny_isTrue_Compare1 (thn (ha.run pins s σ H _ I ⟨F, q⟩) fun v s1 ⟨x, H1, I1, r1, q1⟩ => thn (hb.run pins s1 σ H1 _ I1 q1) fun u s2 ⟨y, H2, I2, r2, F2, d1, d2, r, e, q2⟩ =>
    thn (ho F2 d1 d2 r e pins s2 σ H2 x y v u _ I2 r1 r2 q2) fun c s3 ⟨z, H3, I3, r3, d, F3, rd, q3⟩ => ?_) hm
  obtain ⟨l, k, e2, q4⟩ := tTF_lift q3
  exact tru_ok pins s3 σ H3 z c Q I3 r3 ⟨k, truD.ok rd l e2, q4⟩
def notT (m : M Bool) : M Bool := bindM m fun b => pureM (!b)
theorem dt_not {m : M Bool} (ha : DT X W ω a m) : DT X W ω (.UnaryOp .Not a pos) (notT m) := by
  refine PT.imp (pt_not ha) fun σ H Q ⟨F, q⟩ => ⟨F, ?_⟩
  obtain ⟨G, ρ, S, h⟩ := tTF_bindT q
  exact ⟨G, ρ, S, Res.sat_mono h (fun b ρ' p F' H' l S' => let ⟨F1, q⟩ := p F' H' l S'; tTF_pure q) fun _ _ z => z⟩
def andT (m k : M Bool) : M Bool := bindM m fun b => if b = true then k else pureM false
def orT (m k : M Bool) : M Bool := bindM m fun b => if b = true then pureM true else k
theorem dw_and1 {m : M Bool} (ha : DT X W ω a m) : DW X W ω (.BoolOp .And [a] pos) m := pw_and1 ha
theorem dw_or1 {m : M Bool} (ha : DT X W ω a m) : DW X W ω (.BoolOp .Or [a] pos) m := pw_or1 ha
theorem dw_and {rest : List Expr} {m k : M Bool} (ha : DT X W ω a m) (hb : DW X W ω (.BoolOp .And (b :: rest) pos) k) : DW X W ω (.BoolOp .And (a :: b :: rest) pos) (andT m k) :=
  PW.imp (pw_and ha hb) fun σ H Q ⟨F, q⟩ => by
    obtain ⟨G, ρ, S, h⟩ := tTF_bindT q
    refine ⟨F, G, ρ, S, Res.sat_mono h (fun b ρ' p F' H' l S' => ?_) fun _ _ z => z⟩
    obtain ⟨F1, q⟩ := p F' H' l S'
    cases b with
    | true => rw [if_pos rfl] at q ⊢; exact ⟨F1, q⟩
    | false => rw [if_neg Bool.false_ne_true] at q ⊢; exact tTF_pure q
theorem dw_or {rest : List Expr} {m k : M Bool} (ha : DT X W ω a m) (hb : DW X W ω (.BoolOp .Or (b :: rest) pos) k) : DW X W ω (.BoolOp .Or (a :: b :: rest) pos) (orT m k) :=
  PW.imp (pw_or ha hb) fun σ H Q ⟨F, q⟩ => by
    obtain ⟨G, ρ, S, h⟩ := tTF_bindT q
    refine ⟨F, G, ρ, S, Res.sat_mono h (fun b ρ' p F' H' l S' => ?_) fun _ _ z => z⟩
    obtain ⟨F1, q⟩ := p F' H' l S'
    cases b with
    | true => rw [if_pos rfl] at q ⊢; exact tTF_pure q
    | false => rw [if_neg Bool.false_ne_true] at q ⊢; exact ⟨F1, q⟩
theorem DW.dt {e : Expr} {m : M Bool} (h : DW X W ω e m) : DT X W ω e m := h.pt
/-! ### as values -/
def notM (m : M D) : M D := bindM m fun d => liftO ((truD d).map fun k => .bl !k)
theorem de_not (ha : DE X W ω a .fz m1) : DE X W ω (.UnaryOp .Not a pos) .fz (notM m1) := by
  refine ⟨fun pins s σ H Q I h => ?_⟩
  refine UnaryOp_ (thn (ha.run pins s σ H _ I (tM_bind h)) fun v s1 ⟨x, H1, I1, r1, d, F1, rd, q1⟩ => ?_)
  obtain ⟨l, r, e, k⟩ := tMF_lift q1
  cases t : truD d with
  | none => rw [t] at e; cases e
  | some c =>
    rw [t] at e
    cases e
    exact not_of (thn (tru_ok pins s1 σ H1 x v (fun b H2 => b = c ∧ H2 = H1) I1 r1 ⟨c, truD.ok rd l t, rfl, rfl⟩) fun b s2 ⟨H2, I2, e1, e2⟩ => by
      subst e1 e2
      exact ⟨.bl _, H2, I2, rfl, k _ F1 H2 (Gr.refl l) (.bl _)⟩)
def ifM {α : Type} (c : M Bool) (t e : M α) : M α := bindM c fun b => if b = true then t else e
theorem tMF_bindT {F : Hp} {sh : Sh} {m : M Bool} {k : Bool → M D} {σ : L2.St} {H : Hp} {Q : VK} (h : tMF X.K X.mg W ω sh F (bindM m k) σ H Q) :
    tTF X.K X.mg W ω F m σ H fun x H1 => ∃ F1, tMF X.K X.mg W ω sh F1 (k x) σ H1 Q := by
  obtain ⟨G, ρ, S, h⟩ := h
  refine ⟨G, ρ, S, Res.sat_mono (Res.sat_bind h) (fun d ρ1 q F1 H1 l S1 => ?_) fun _ _ z => z⟩
  exact ⟨F1, G, ρ1, S1, Res.sat_mono q (fun ds ρ' p v F' H' l' S' => p v F' H' (l.trans l') S') fun _ _ z => z.le l⟩
theorem de_if {sh : Sh} {m : M Bool} (hc : DT X W ω c m) (ha : DE X W ω a sh m1) (hb : DE X W ω b sh m2) : DE X W ω (.IfExp c a b pos) sh (ifM m m1 m2) :=
  PE.imp (pe_ifExp hc ha hb) fun σ H Q ⟨F, q⟩ => by
    obtain ⟨G, ρ, S, h⟩ := tMF_bindT q
    refine ⟨F, G, ρ, S, Res.sat_mono h (fun b ρ' p F' H' l S' => ?_) fun _ _ z => z⟩
    obtain ⟨F1, q⟩ := p F' H' l S'
    cases b with
    | true => rw [if_pos rfl] at q ⊢; exact ⟨F1, q⟩
    | false => rw [if_neg Bool.false_ne_true] at q ⊢; exact ⟨F1, q⟩
/-- a and b, a or b, by truth -/
def andM (m k : M D) : M D := bindM m fun d => bindM (liftO (truD d)) fun t => if t = true then k else pureM d
def orM (m k : M D) : M D := bindM m fun d => bindM (liftO (truD d)) fun t => if t = true then pureM d else k
theorem de_one {op} {sh : Sh} (h : DE X W ω a sh m1) : DE X W ω (.BoolOp op [a] pos) sh m1 := pe_one h
theorem tMF_liftB {F : Hp} {sh : Sh} {o : Option Bool} {k : Bool → M D} {σ : L2.St} {H : Hp} {Q : VK} (h : tMF X.K X.mg W ω sh F (bindM (liftO o) k) σ H Q) : Le F H ∧ ∃ b, o = some b ∧ tMF X.K X.mg W ω sh F (k b) σ H Q := by
  obtain ⟨G, ρ, S, h⟩ := h
  cases o with
  | none => exact h.elim
  | some b => exact ⟨S.fH, b, rfl, G, ρ, S, h⟩
theorem de_and {rest : List Expr} (ha : DE X W ω a .fz m1) (hb : DE X W ω (.BoolOp .And (b :: rest) pos) .fz m2) : DE X W ω (.BoolOp .And (a :: b :: rest) pos) .fz (andM m1 m2) := by
  refine ⟨fun pins s σ H Q I h => ?_⟩
  refine BoolOp_and (thn (ha.run pins s σ H _ I (tM_bind h)) fun v s1 ⟨x, H1, I1, r1, d, F1, rd, q1⟩ => ?_)
  obtain ⟨l, t, e, q2⟩ := tMF_liftB q1
  refine thn (tru_ok pins s1 σ H1 x v (fun b H2 => b = t ∧ H2 = H1) I1 r1 ⟨t, truD.ok rd l e, rfl, rfl⟩) fun b s2 ⟨H2, I2, e1, e2⟩ => ?_
  subst e1 e2
  cases b with
  | true => rw [if_pos rfl] at q2 ⊢; exact hb.run pins s2 σ H2 Q I2 ⟨F1, q2⟩
  | false =>
    rw [if_neg Bool.false_ne_true] at q2 ⊢
    obtain ⟨_, q3⟩ := tMF_ret q2
    exact ⟨x, H2, I2, r1, q3 x F1 H2 (Gr.refl l) rd⟩
theorem de_or {rest : List Expr} (ha : DE X W ω a .fz m1) (hb : DE X W ω (.BoolOp .Or (b :: rest) pos) .fz m2) : DE X W ω (.BoolOp .Or (a :: b :: rest) pos) .fz (orM m1 m2) := by
  refine ⟨fun pins s σ H Q I h => ?_⟩
  refine BoolOp_or (thn (ha.run pins s σ H _ I (tM_bind h)) fun v s1 ⟨x, H1, I1, r1, d, F1, rd, q1⟩ => ?_)
  obtain ⟨l, t, e, q2⟩ := tMF_liftB q1
  refine thn (tru_ok pins s1 σ H1 x v (fun b H2 => b = t ∧ H2 = H1) I1 r1 ⟨t, truD.ok rd l e, rfl, rfl⟩) fun b s2 ⟨H2, I2, e1, e2⟩ => ?_
  subst e1 e2
  cases b with
  | false => rw [if_neg Bool.false_ne_true] at q2 ⊢; exact hb.run pins s2 σ H2 Q I2 ⟨F1, q2⟩
  | true =>
    rw [if_pos rfl] at q2 ⊢
    obtain ⟨_, q3⟩ := tMF_ret q2
    exact ⟨x, H2, I2, r1, q3 x F1 H2 (Gr.refl l) rd⟩
end
end DL
/-! DL: statements. -/
namespace DL
open PySem PySem.Spec PyProof.Rows L2
/-- how a statement ends -/
inductive Fl where
  | nx | rt (d : D) | bk | ct
/-- what a def's own names must leave at its return: shs the parameters' shapes (those not fz are kept), at the entry's values -/
structure Rt where
  sh : Sh
  shs : List Sh
  ω : List Sh
  σ : L2.St
/-- a statement's surroundings: the wish for exceptions, the names' shapes there, the return, the names' shapes at a break or continue -/
structure Sx where
  W : WX
  ωe : List Sh
  R : Rt
  ωl : List Sh
/-- the kept parameters' data -/
def keep : List Sh → Rho → Rho
  | [], _ => []
  | .fz :: ss, ρ => none :: keep ss ρ.tail
  | _ :: ss, [] => none :: keep ss []
  | _ :: ss, x :: ρ => x :: keep ss ρ
inductive KeepOk : List Sh → List Sh → List Sh → L2.St → Prop
  | nil {ω : List Sh} : KeepOk [] ω [] []
  | fz {ss ω rs : List Sh} {τ : L2.St} {s r : Sh} {x : Option V} : KeepOk ss ω rs τ → KeepOk (.fz :: ss) (s :: ω) (r :: rs) (x :: τ)
  | pin {ss ω rs : List Sh} {τ : L2.St} {a : Addr} {e : Sh} : KeepOk ss ω rs τ → KeepOk (.lst e :: ss) (.pin a (.lst e) :: ω) (.pin a (.lst e) :: rs) (some (.ref a) :: τ)
theorem OwnL.keep {K : Fg} {F H : Hp} {shs ω rs : List Sh} {τ : L2.St} (k : KeepOk shs ω rs τ) : ∀ {σ : L2.St} {ρ : Rho} {fp : List Addr}, OwnL K F H ω σ ρ fp → ∃ fp', OwnL K F H rs τ (DL.keep shs ρ) fp' ∧ ∀ a ∈ fp', a ∈ fp := by
  induction k with
  | nil => intro σ ρ fp o; exact ⟨[], .nil, fun _ m => by cases m⟩
  | fz k ih =>
    intro σ ρ fp o
    cases o with
    | un o =>
      obtain ⟨fp', q, m⟩ := ih o
      exact ⟨fp', .un q, m⟩
    | bd x o n =>
      obtain ⟨fp', q, m⟩ := ih o
      exact ⟨fp', .un q, fun a z => List.mem_append_right _ (m a z)⟩
  | pin k ih =>
    intro σ ρ fp o
    cases o with
    | un o =>
      obtain ⟨fp', q, m⟩ := ih o
      exact ⟨fp', .un q, m⟩
    | bd x o n =>
      obtain ⟨fp', q, m⟩ := ih o
      cases x with
      | pin x => exact ⟨_, .bd (.pin x) q fun a z y => n a z (m a y), fun a z => List.mem_append.mpr ((List.mem_append.mp z).imp id (m a))⟩
def wantS (K : Fg) (C : Sx) (ω' : List Sh) (F G : Hp) (Dn : Ends) : Fl → Rho → Prop
  | .nx, ρ' => ∀ σ' F' H', Le F F' → Sim K ω' F' G H' ρ' σ' → Dn.nx σ' H'
  | .rt d, ρ' => ∀ v F' H', Le F F' → Sim K (C.R.sh :: C.R.ω) F' G H' (some d :: keep C.R.shs ρ') (some v :: C.R.σ) → Dn.rt v H'
  | .bk, ρ' => ∀ σ' F' H', Le F F' → Sim K C.ωl F' G H' ρ' σ' → Dn.bk σ' H'
  | .ct, ρ' => ∀ σ' F' H', Le F F' → Sim K C.ωl F' G H' ρ' σ' → Dn.ct σ' H'
def zS (K : Fg) (mg : Str → Option Value) (C : Sx) (F G : Hp) : Exn → Rho → Prop := fun e ρ' =>
  ∀ σ' F' H' cls dx, Le F F' → Sim K C.ωe F' G H' ρ' σ' → ExIs K mg F' H' e cls dx → C.W cls dx σ' H'
def tSF (K : Fg) (mg : Str → Option Value) (C : Sx) (ω ω' : List Sh) (F : Hp) (m : M Fl) : TS := fun Dn σ H =>
  ∃ G ρ, Sim K ω F G H ρ σ ∧ (m ρ).sat (wantS K C ω' F G Dn) (zS K mg C F G)
def tS (K : Fg) (mg : Str → Option Value) (C : Sx) (ω ω' : List Sh) (m : M Fl) : TS := fun Dn σ H => ∃ F, tSF K mg C ω ω' F m Dn σ H
abbrev DS (X : Cx) (C : Sx) (ω : List Sh) (st : Stmt) (ω' : List Sh) (m : M Fl) : Prop := PS X st (tS X.K X.mg C ω ω' m)
abbrev DSs (X : Cx) (C : Sx) (ω : List Sh) (st : List Stmt) (ω' : List Sh) (m : M Fl) : Prop := PSs X st (tS X.K X.mg C ω ω' m)
theorem PS.imp {X : Cx} {st : Stmt} {t t' : TS} (h : PS X st t) (k : ∀ D σ H, t' D σ H → t D σ H) : PS X st t' := ⟨fun pins s σ H D I q => h.run pins s σ H D I (k D σ H q)⟩
theorem PSs.imp {X : Cx} {st : List Stmt} {t t' : TS} (h : PSs X st t) (k : ∀ D σ H, t' D σ H → t D σ H) : PSs X st t' := ⟨fun pins s σ H D I q => h.run pins s σ H D I (k D σ H q)⟩
section
variable {K : Fg} {mg : Str → Option Value} {C : Sx} {ω ω' ω1 : List Sh} {F F1 G H H' : Hp} {ρ : Rho} {σ : L2.St} {Dn : Ends}
theorem wantS.le (l : Le F F1) : ∀ {fl : Fl} {ρ' : Rho}, wantS K C ω' F G Dn fl ρ' → wantS K C ω' F1 G Dn fl ρ'
  | .nx, _, h => fun σ' F' H' l' => h σ' F' H' (l.trans l')
  | .rt _, _, h => fun v F' H' l' => h v F' H' (l.trans l')
  | .bk, _, h => fun σ' F' H' l' => h σ' F' H' (l.trans l')
  | .ct, _, h => fun σ' F' H' l' => h σ' F' H' (l.trans l')
theorem zS.le (l : Le F F1) {e : Exn} {ρ' : Rho} (h : zS K mg C F G e ρ') : zS K mg C F1 G e ρ' := fun σ' F' H' cls dx l' => h σ' F' H' cls dx (l.trans l')
theorem ExIs.mono {e : Exn} {cls : Value} {dx : Option Addr} (l : Le F F1) (h : ExIs K mg F H e cls dx) : ExIs K mg F1 H e cls dx := by
  obtain ⟨c, a, b, z⟩ := h
  refine ⟨c, a, b, ?_⟩
  cases dx with
  | none => exact z
  | some d => obtain ⟨fs, x, y, w⟩ := z; exact ⟨fs, x, y, w.mono l⟩
/-- an exception of an expression is the statement's -/
theorem zS.zx (wk : Wk ω C.ωe) {e : Exn} {ρ' : Rho} (h : zS K mg C F G e ρ') : Zx K mg C.W ω F G σ e ρ' := fun F' H' cls dx l S x => by
  obtain ⟨F2, l2, S2⟩ := S.wk wk
  exact h σ F2 H' cls dx (l.trans l2) S2 (x.mono l2)
/-- an expression, then what hangs on its data -/
theorem tS_bind {sh : Sh} {m : M D} {k : D → M Fl} (wk : Wk ω C.ωe) (h : tS K mg C ω ω' (bindM m k) Dn σ H) :
    tM K mg C.W ω sh m σ H fun x H1 => ∃ d F1 G ρ1, Sim K (sh :: ω) F1 G H1 (some d :: ρ1) (some x :: σ) ∧ (k d ρ1).sat (wantS K C ω' F1 G Dn) (zS K mg C F1 G) := by
  obtain ⟨F, G, ρ, S, h⟩ := h
  exact ⟨F, G, ρ, S, Res.sat_mono (Res.sat_bind h) (fun d ρ1 q v F1 H1 l S1 => ⟨d, F1, G, ρ1, S1, Res.sat_mono q (fun _ _ z => z.le l) fun _ _ z => z.le l⟩) fun _ _ z => z.zx wk⟩
theorem tS_bindT {m : M Bool} {k : Bool → M Fl} (wk : Wk ω C.ωe) (h : tS K mg C ω ω' (bindM m k) Dn σ H) :
    tT K mg C.W ω m σ H fun x H1 => tS K mg C ω ω' (k x) Dn σ H1 := by
  obtain ⟨F, G, ρ, S, h⟩ := h
  exact ⟨F, G, ρ, S, Res.sat_mono (Res.sat_bind h) (fun d ρ1 q F1 H1 l S1 => ⟨F1, G, ρ1, S1, Res.sat_mono q (fun _ _ z => z.le l) fun _ _ z => z.le l⟩) fun _ _ z => z.zx wk⟩
end
section
variable {X : Cx} {C : Sx} {ω ω' ω1 : List Sh} {st : Stmt} {rest : List Stmt} {m : M D} {k : M Fl} {e : Expr} {sh : Sh} {pos : Pos}
/-! ### rows of statements -/
def nextM : M Fl := pureM .nx
def seqM (m k : M Fl) : M Fl := fun ρ => match m ρ with
  | .ok .nx ρ1 => k ρ1
  | r => r
theorem dss_nil : DSs X C ω [] ω nextM := PSs.imp pss_nil fun D σ H ⟨F, G, ρ, S, h⟩ => h σ F H (Le.refl _) S
theorem dss_one {m : M Fl} (h : DS X C ω st ω' m) : DSs X C ω [st] ω' m := pss_one h
theorem dss_cons {m k : M Fl} (h : DS X C ω st ω1 m) (hs : DSs X C ω1 rest ω' k) : DSs X C ω (st :: rest) ω' (seqM m k) :=
  PSs.imp (pss_cons h hs) fun D σ H ⟨F, G, ρ, S, q⟩ => by
    refine ⟨F, G, ρ, S, ?_⟩
    unfold seqM at q
    cases e : m ρ with
    | ok fl ρ1 =>
      cases fl with
      | nx =>
        rw [e] at q
        exact fun σ' F' H' l S' => ⟨F', G, ρ1, S', Res.sat_mono q (fun _ _ z => z.le l) fun _ _ z => z.le l⟩
      | rt d => rw [e] at q; exact q
      | bk => rw [e] at q; exact q
      | ct => rw [e] at q; exact q
    | exc x ρ1 => rw [e] at q; exact q
    | no => rw [e] at q; exact q
/-- what a name owns is frozen ahead of a row of statements -/
theorem dss_wk {m : M Fl} {sts : List Stmt} (w : Wk ω ω1) (h : DSs X C ω1 sts ω' m) : DSs X C ω sts ω' m :=
  PSs.imp h fun D σ H ⟨F, G, ρ, S, q⟩ => by
    obtain ⟨F1, l, S1⟩ := S.wk w
    exact ⟨F1, G, ρ, S1, Res.sat_mono q (fun _ _ z => z.le l) fun _ _ z => z.le l⟩
/-- .. behind it -/
theorem dss_wk' {m : M Fl} {sts : List Stmt} (h : DSs X C ω sts ω1 m) (w : Wk ω1 ω') : DSs X C ω sts ω' m :=
  PSs.imp h fun D σ H ⟨F, G, ρ, S, q⟩ => by
    refine ⟨F, G, ρ, S, Res.sat_mono q (fun fl ρ' z => ?_) fun _ _ z => z⟩
    cases fl with
    | nx =>
      refine fun σ' F' H' l S' => ?_
      obtain ⟨F2, l2, S2⟩ := S'.wk w
      exact z σ' F2 H' (l.trans l2) S2
    | rt d => exact z
    | bk => exact z
    | ct => exact z
/-- a block that does not fall through -/
theorem dss_any {m : M Fl} {sts : List Stmt} (h : DSs X C ω sts ω1 m) (n : ∀ ρ ρ', m ρ ≠ .ok .nx ρ') : DSs X C ω sts ω' m :=
  PSs.imp h fun D σ H ⟨F, G, ρ, S, q⟩ => by
    refine ⟨F, G, ρ, S, ?_⟩
    cases e : m ρ with
    | ok fl ρ1 =>
      rw [e] at q
      cases fl with
      | nx => exact absurd e (n _ _)
      | rt d => exact q
      | bk => exact q
      | ct => exact q
    | exc x ρ1 => rw [e] at q; exact q
    | no => rw [e] at q; exact q
/-! ### the statements -/
def setM (i : Nat) (m : M D) : M Fl := bindM m fun d ρ => .ok .nx (ρ.set i (some d))
theorem ds_set {i : Nat} {x : Str} {p' : Pos} (wk : Wk ω C.ωe) (hN : X.N.Nodup) (hi : X.N[i]? = some x) (hx : Loc X.env.scope x) (he : DE X C.W ω e sh m) (hs : swapsWith e (some (.Name x p')) pos.line X.env = pure false := by rfl)
    (hf : X.fn x = true ∨ X.env.scope.names.lookup x = some .local := by first | exact .inl rfl | exact .inr rfl | assumption) : DS X C ω (.Assign [.Name x p'] e pos) (ω.set i sh) (setM i m) :=
  PS.imp (ps_set hN hi hx he hs hf) fun D σ H q => by
    obtain ⟨F, q⟩ := tS_bind (sh := sh) wk q
    exact ⟨F, tMF_mono q fun x H1 ⟨d, F1, G, ρ1, S, z⟩ => z _ F1 H1 (Le.refl _) (S.set i)⟩
def retM (m : M D) : M Fl := bindM m fun d => pureM (.rt d)
theorem ds_ret (wk : Wk ω C.ωe) (ko : KeepOk C.R.shs ω C.R.ω C.R.σ) (he : DE X C.W ω e C.R.sh m) : DS X C ω (.Return (some e) pos) ω' (retM m) :=
  PS.imp (ps_ret he) fun D σ H q => by
    obtain ⟨F, q⟩ := tS_bind (sh := C.R.sh) wk q
    refine ⟨F, tMF_mono q fun x H1 ⟨d, F1, G, ρ1, S, z⟩ => z x F1 H1 (Le.refl _) ?_⟩
    obtain ⟨⟨fp, o, n⟩, a, b, dj⟩ := S
    cases o with
    | bd w o nn =>
      obtain ⟨fq, q, mm⟩ := o.keep ko
      exact ⟨⟨_, .bd w q fun a z y => nn a z (mm a y), fun a z => n a (List.mem_append.mpr ((List.mem_append.mp z).imp id (mm a)))⟩, a, b, dj⟩
def dropM (m : M D) : M Fl := bindM m fun _ => nextM
theorem ds_expr (wk : Wk ω C.ωe) (he : DE X C.W ω e .fz m) (hs : swapsWith e none pos.line X.env = pure false := by rfl) : DS X C ω (.Expr e pos) ω (dropM m) :=
  PS.imp (ps_expr he hs) fun D σ H q => by
    obtain ⟨F, q⟩ := tS_bind (sh := .fz) wk q
    exact ⟨F, tMF_mono q fun x H1 ⟨d, F1, G, ρ1, S, z⟩ => z σ F1 H1 (Le.refl _) S.top.2⟩
theorem ds_pass : DS X C ω (.Pass pos) ω nextM := PS.imp ps_pass fun D σ H ⟨F, G, ρ, S, h⟩ => h σ F H (Le.refl _) S
theorem ds_break : DS X C C.ωl (.Break pos) ω' (pureM .bk) := PS.imp ps_break fun D σ H ⟨F, G, ρ, S, h⟩ => h σ F H (Le.refl _) S
theorem ds_continue : DS X C C.ωl (.Continue pos) ω' (pureM .ct) := PS.imp ps_continue fun D σ H ⟨F, G, ρ, S, h⟩ => h σ F H (Le.refl _) S
/-- code that is not come to -/
theorem ds_never : DS X C ω st ω' failM := PS.imp ps_never fun D σ H ⟨F, G, ρ, S, h⟩ => h
theorem dss_never {sts : List Stmt} : DSs X C ω sts ω' failM := PSs.imp pss_never fun D σ H ⟨F, G, ρ, S, h⟩ => h
theorem ds_if {c : Expr} {a b : List Stmt} {mc : M Bool} {ma mb : M Fl} (wk : Wk ω C.ωe) (hc : DT X C.W ω c mc) (ha : DSs X C ω a ω' ma) (hb : DSs X C ω b ω' mb) : DS X C ω (.If c a b pos) ω' (ifM mc ma mb) :=
  PS.imp (ps_if hc ha hb) fun D σ H q => by
    obtain ⟨F, G, ρ, S, h⟩ := tS_bindT wk q
    refine ⟨F, G, ρ, S, Res.sat_mono h (fun b ρ' p F' H' l S' => ?_) fun _ _ z => z⟩
    have p := p F' H' l S'
    cases b with
    | true => exact p
    | false => exact p
/-! ### targets -/
abbrev Tg := D → Rho → Option Rho
abbrev Tgs := List D → Rho → Option Rho
/-- only the slots of vs are touched -/
def Tch (vs : List Nat) (σ σ' : L2.St) : Prop := σ'.length = σ.length ∧ ∀ i, i ∉ vs → σ'[i]? = σ[i]?
theorem Tch.refl {vs : List Nat} {σ : L2.St} : Tch vs σ σ := ⟨rfl, fun _ _ => rfl⟩
theorem Tch.trans {vs : List Nat} {σ σ1 σ2 : L2.St} (a : Tch vs σ σ1) (b : Tch vs σ1 σ2) : Tch vs σ σ2 := ⟨b.1.trans a.1, fun i h => (b.2 i h).trans (a.2 i h)⟩
theorem Tch.set {vs : List Nat} {σ : L2.St} {i : Nat} {x : Option V} (h : i ∈ vs) : Tch vs σ (σ.set i x) := ⟨by simp, fun j hj => List.getElem?_set_ne (fun e => hj (by rw [← e]; exact h))⟩
def tGD (K : Fg) (ω : List Sh) (vs : List Nat) (t : Tg) : TG := fun v σ H Q => ∃ F G ρ d ρ1, RD K F v d ∧ Sim K ω F G H ρ σ ∧ t d ρ = some ρ1 ∧ ∀ σ' F' H', Tch vs σ σ' → Le F F' → Sim K ω F' G H' ρ1 σ' → Q σ' H'
def tGs (K : Fg) (ω : List Sh) (vs : List Nat) (t : Tgs) : TGs := fun xs σ H Q => ∃ F G ρ ds ρ1, RDs K F xs ds ∧ Sim K ω F G H ρ σ ∧ t ds ρ = some ρ1 ∧ ∀ σ' F' H', Tch vs σ σ' → Le F F' → Sim K ω F' G H' ρ1 σ' → Q σ' H'
abbrev DG (X : Cx) (ω : List Sh) (vs : List Nat) (tg : Expr) (t : Tg) : Prop := PG X tg (tGD X.K ω vs t)
abbrev DGs (X : Cx) (ω : List Sh) (vs : List Nat) (tgs : List Expr) (t : Tgs) : Prop := PGs X tgs (tGs X.K ω vs t)
theorem PG.imp {tg : Expr} {t t' : TG} (h : PG X tg t) (k : ∀ v σ H Q, t' v σ H Q → t v σ H Q) : PG X tg t' := ⟨fun pins s σ H v u Q I r q => h.run pins s σ H v u Q I r (k v σ H Q q)⟩
theorem PGs.imp {tg : List Expr} {t t' : TGs} (h : PGs X tg t) (k : ∀ v σ H Q, t' v σ H Q → t v σ H Q) : PGs X tg t' := ⟨fun pins s σ H v u Q I r q => h.run pins s σ H v u Q I r (k v σ H Q q)⟩
def gSet (i : Nat) : Tg := fun d ρ => some (ρ.set i (some d))
theorem Sim.setFz {K : Fg} {ω : List Sh} {F G H : Hp} {ρ : Rho} {σ : L2.St} {v : V} {d : D} {i : Nat} (S : Sim K ω F G H ρ σ) (h : ω[i]? = some .fz) (r : RD K F v d) : Sim K ω F G H (ρ.set i (some d)) (σ.set i (some v)) :=
  S.put h (.inr ⟨v, d, rfl, rfl, r⟩)
theorem dg_name {i : Nat} {x : Str} {vs : List Nat} (hs : ω[i]? = some .fz) (h : PG X (.Name x pos) (gName i)) (hv : i ∈ vs := by first | exact List.mem_cons_self | decide) : DG X ω vs (.Name x pos) (gSet i) :=
  PG.imp h fun v σ H Q ⟨F, G, ρ, d, ρ1, r, S, e, q⟩ => by
    cases e
    exact q _ F H (Tch.set hv) (Le.refl _) (S.setFz hs r)
def gsNil : Tgs := fun ds ρ => match ds with | [] => some ρ | _ => none
def gsCons (t : Tg) (ts : Tgs) : Tgs := fun ds ρ => match ds with | [] => none | d :: ds => (t d ρ).bind fun ρ1 => ts ds ρ1
theorem dgs_nil {vs : List Nat} : DGs X ω vs [] gsNil := PGs.imp pgs_nil fun v σ H Q ⟨F, G, ρ, ds, ρ1, r, S, e, q⟩ => by
  unfold gsNil at e
  split at e
  · cases e
    cases r
    exact ⟨rfl, q σ F H Tch.refl (Le.refl _) S⟩
  · cases e
theorem dgs_cons {vs : List Nat} {es : List Expr} {t : Tg} {ts : Tgs} (h : DG X ω vs e t) (hs : DGs X ω vs es ts) (hq : (assignEach (e :: es) X.env).map (·.2) = assign e X.env :: (assignEach es X.env).map (·.2) := by rfl) : DGs X ω vs (e :: es) (gsCons t ts) :=
  PGs.imp (pgs_cons h hs hq) fun v σ H Q ⟨F, G, ρ, ds, ρ1, r, S, e, q⟩ => by
    unfold gsCons at e
    cases r with
    | nil => cases e
    | cons r rs =>
      obtain ⟨ρ2, e1, e2⟩ := Option.bind_eq_some_iff.mp e
      exact ⟨_, _, rfl, F, G, ρ, _, ρ2, r, S, e1, fun σ' F' H' tc l S' => ⟨F', G, ρ2, _, ρ1, rs.mono l, S', e2, fun σ2 F2 H2 tc2 l2 S2 => q σ2 F2 H2 (tc.trans tc2) (l.trans l2) S2⟩⟩
def gUnp (n : Nat) (ts : Tgs) : Tg := fun d ρ => match d with
  | .tup ds => if ds.length = n then ts ds ρ else none
  | _ => none
theorem dg_tup {vs : List Nat} {es : List Expr} {k n : Nat} {ts : Tgs} (hc : X.calm = true) (h : DGs X ω vs es ts) (hn : (assignEach es X.env).length = n := by rfl) (hst : (assignEach es X.env).findIdx? (·.1) = none := by rfl) : DG X ω vs (.Tuple es k pos) (gUnp n ts) :=
  PG.imp (pg_tup hc h hn hst) fun v σ H Q ⟨F, G, ρ, d, ρ1, r, S, e, q⟩ => by
    unfold gUnp at e
    split at e
    · split at e
      · rename_i hl
        cases r with
        | tup hq rs => exact ⟨_, _, rfl, SqT.mono S.fH hq, by rw [rs.length]; exact hl, F, G, ρ, _, ρ1, rs, S, e, q⟩
      · cases e
    · cases e
/-- target = e -/
def asgM (t : Tg) (m : M D) : M Fl := bindM m fun d ρ => match t d ρ with
  | some ρ1 => .ok .nx ρ1
  | none => .no
theorem ds_asg {tg : Expr} {t : Tg} {vs : List Nat} (wk : Wk ω C.ωe) (he : DE X C.W ω e .fz m) (hg : DG X ω vs tg t) (hs : swapsWithSole [tg] e pos.line X.env = pure false := by rfl) (hw : swappedStores [tg] e X.env = pure none := by rfl)
    (h1 : (assignEach [tg] X.env).map (·.2) = [assign tg X.env] := by rfl) : DS X C ω (.Assign [tg] e pos) ω (asgM t m) :=
  PS.imp (ps_asg he hg hs hw h1) fun D σ H q => by
    obtain ⟨F, q⟩ := tS_bind (sh := .fz) wk q
    refine ⟨F, tMF_mono q fun x H1 ⟨d, F1, G, ρ1, S, z⟩ => ?_⟩
    obtain ⟨r, S1⟩ := S.top
    cases e : t d ρ1 with
    | none => rw [e] at z; exact z.elim
    | some ρ2 =>
      rw [e] at z
      exact ⟨F1, G, ρ1, d, ρ2, r, S1, e, fun σ' F' H' _ => z σ' F' H'⟩
/-- a, b = x, y, two plain names -/
def parM (i j : Nat) (ms : M (List D)) : M Fl := bindM ms fun ds ρ => match ds with
  | [x, y] => .ok .nx ((ρ.set i (some x)).set j (some y))
  | _ => .no
theorem tS_bindA {ms : M (List D)} {k : List D → M Fl} {D : Ends} {σ : L2.St} {H : Hp} (wk : Wk ω C.ωe) (h : tS X.K X.mg C ω ω' (bindM ms k) D σ H) :
    tA X.K X.mg C.W ω ms σ H fun xs H1 => ∃ ds F1 G ρ1, RDs X.K F1 xs ds ∧ Sim X.K ω F1 G H1 ρ1 σ ∧ (k ds ρ1).sat (wantS X.K C ω' F1 G D) (zS X.K X.mg C F1 G) := by
  obtain ⟨F, G, ρ, S, h⟩ := h
  exact ⟨F, G, ρ, S, Res.sat_mono (Res.sat_bind h) (fun d ρ1 q vs F1 H1 l S1 rs => ⟨d, F1, G, ρ1, rs, S1, Res.sat_mono q (fun _ _ z => z.le l) fun _ _ z => z.le l⟩) fun _ _ z => z.zx wk⟩
theorem ds_par {i j : Nat} {ms : M (List D)} {st : Stmt} {t : TA → TS} (wk : Wk ω C.ωe) (hi : ω[i]? = some .fz) (hj : ω[j]? = some .fz) (ha : PS X st (tPar i j (tA X.K X.mg C.W ω ms))) : DS X C ω st ω (parM i j ms) :=
  PS.imp ha fun D σ H q => by
    obtain ⟨F, G, ρ, S, h⟩ := tS_bindA wk q
    refine ⟨F, G, ρ, S, Res.sat_mono h (fun ds ρ' p vs F' H' l S' rs => ?_) fun _ _ z => z⟩
    obtain ⟨ds, F1, G, ρ1, rs, S1, z⟩ := p vs F' H' l S' rs
    split at z
    · cases rs with
      | cons r1 rs =>
        cases rs with
        | cons r2 rs =>
          cases rs
          exact ⟨_, _, rfl, z _ F1 _ (Le.refl _) ((S1.setFz hi r1).setFz hj r2)⟩
    · exact z.elim
/-- name op= e -/
def augM (i : Nat) (g : D → D → Option D) (m : M D) : M Fl := bindM (getV i) fun x => bindM m fun y => bindM (liftO (g x y)) fun z ρ => .ok .nx (ρ.set i (some z))
theorem ds_aug {i : Nat} {x : Str} {op : Operator} {g : D → D → Option D} {p' : Pos} (wk : Wk ω C.ωe) (hs : ω[i]? = some .fz) (ho : OpD X (inplaceOp op) g) (hN : X.N.Nodup) (hi : X.N[i]? = some x) (hx : Loc X.env.scope x) (he : DE X C.W ω e .fz m)
    (hf : X.fn x = true ∨ X.env.scope.names.lookup x = some .local := by first | exact .inl rfl | exact .inr rfl | assumption) : DS X C ω (.AugAssign (.Name x p') op e pos) ω (augM i g m) := by
  have hp : PIp X op fun x y H Q => ∃ F d1 d2 r, g d1 d2 = some r ∧ Le F H ∧ RD X.K F x d1 ∧ RD X.K F y d2 ∧ ∀ z F' H', Gr F H F' H' → RD X.K F' z r → Q z H' :=
    fun pins s σ H x y v u Q I r1 r2 ⟨F, d1, d2, r, e, q⟩ => ho F d1 d2 r e pins s σ H x y v u Q I r1 r2 q
  refine PS.imp (ps_aug hN hi hx he hp hf) fun D σ H q => ?_
  obtain ⟨F, G, ρ, S, q⟩ := q
  have q := Res.sat_bind q
  unfold getV at q
  split at q
  · rename_i d ed
    obtain ⟨v, ev, rv⟩ := S.get hs ed
    refine ⟨v, ev, ?_⟩
    have q' : tS X.K X.mg C ω ω (bindM m fun y => bindM (liftO (g d y)) fun z ρ => .ok .nx (ρ.set i (some z))) D σ H := ⟨F, G, ρ, S, q⟩
    obtain ⟨F0, G0, ρ0, S0, q0⟩ := q'
    refine ⟨F, G, ρ, S, Res.sat_mono (Res.sat_bind q) (fun d2 ρ1 p w F1 H1 l S1 => ?_) fun _ _ z => z.zx wk⟩
    obtain ⟨r2, S2⟩ := S1.top
    have p := Res.sat_bind p
    cases eg : g d d2 with
    | none => rw [eg] at p; exact p.elim
    | some r =>
      rw [eg] at p
      exact ⟨F1, d, d2, r, eg, S1.fH, rv.mono l, r2, fun z F2 H2 gr rz => p _ F2 H2 (l.trans gr.lf) ((S2.gr gr).setFz hs rz)⟩
  · exact q.elim
/-- owned: xs[k] = e -/
def updM (i : Nat) (g : List D → Option (List D)) : M Fl := fun ρ => match ρ[i]? with
  | some (some (.lst xs)) => (match g xs with
    | some ys => .ok .nx (ρ.set i (some (.lst ys)))
    | none => .no)
  | _ => .no
def putAt (k : D) (d : D) (xs : List D) : Option (List D) := match k with
  | .int j => (ixN xs.length j).map fun n => xs.set n d
  | _ => none
def chkM (i : Nat) : M D := fun ρ => match ρ[i]? with
  | some (some (.lst xs)) => .ok .non ρ
  | _ => .no
def setIxM (i : Nat) (m mk : M D) : M Fl := bindM m fun d => bindM (chkM i) fun _ => bindM mk fun k => updM i (putAt k d)
theorem ds_setIx {i : Nat} {x : Str} {ix : Expr} {mk : M D} {p' p2 : Pos} {s : Sh} (wk : Wk ω C.ωe) (h1 : ω[i]? = some s) (hs : coreSh s = .lst .fz) (hv : PE X (.Name x p') (tVar i)) (he : DE X C.W ω e .fz m) (hk : DE X C.W ω ix .fz mk)
    (ha : ∀ v, assign (.Subscript (.Name x p') ix p2) X.env v = (do
      let ov ← holding [v] (eval (.Name x p') X.env)
      let iv ← holding [v, ov] (eval ix X.env)
      standAt p2
      holding [v, ov, iv] (setItem ov iv v)
      release [v, ov, iv] []) := by intro _; rfl)
    (hq : swapsWithSole [.Subscript (.Name x p') ix p2] e pos.line X.env = pure false := by rfl) (hw : swappedStores [.Subscript (.Name x p') ix p2] e X.env = pure none := by rfl)
    (h2 : (assignEach [.Subscript (.Name x p') ix p2] X.env).map (·.2) = [assign (.Subscript (.Name x p') ix p2) X.env] := by rfl) : DS X C ω (.Assign [.Subscript (.Name x p') ix p2] e pos) ω (setIxM i m mk) :=
  PS.imp (ps_asg he (pg_sub hv hk set_list ha) hq hw h2) fun D σ H q => by
    obtain ⟨F, q⟩ := tS_bind (sh := .fz) wk q
    refine ⟨F, tMF_mono q fun v H1 ⟨d, F1, G, ρ1, S, z⟩ => ?_⟩
    obtain ⟨r, S1⟩ := S.top
    unfold chkM at z
    have z := Res.sat_bind z
    split at z
    · rename_i ds0 e0
      obtain ⟨a, xs, ea, _⟩ := S1.lst h1 hs e0
      refine ⟨_, ea, ?_⟩
      obtain ⟨F0, q0⟩ := tS_bind (sh := .fz) wk (⟨F1, G, ρ1, S1, z⟩ : tS X.K X.mg C ω ω (bindM mk fun k => updM i (putAt k d)) D σ H1)
      obtain ⟨G0, ρ0, S0, q0⟩ := q0
      refine ⟨F1, G, ρ1, S1, Res.sat_mono (Res.sat_bind z) (fun k ρ2 p w F2 H2 l S2 => ?_) fun _ _ z => z.zx wk⟩
      obtain ⟨rk, S3⟩ := S2.top
      unfold updM at p
      split at p
      · rename_i ds e2
        split at p
        · rename_i ys ey
          obtain ⟨a', xs', ea', hx, rs, up⟩ := S3.lst h1 hs e2
          rw [ea] at ea'
          cases ea'
          unfold putAt at ey
          split at ey
          · rename_i j
            cases rk
            obtain ⟨n, en, ey⟩ := Option.map_eq_some_iff.mp ey
            subst ey
            refine ⟨a, xs', j, n, rfl, rfl, hx, by rw [rs.length]; exact en, ?_⟩
            exact p σ F2 _ l (up F2 H2 _ _ (Gr.refl S3.fH) (rs.set (r.mono l) n))
          · cases ey
        · exact p.elim
      · exact p.elim
    · exact z.elim
end
end DL
/-! DL: loops, comprehensions. -/
namespace DL
open PySem PySem.Spec PyProof.Rows L2
section
variable {K : Fg} {ω : List Sh} {F F' G H H' : Hp} {ρ : Rho} {σ : L2.St} {s : Sh} {v : V} {d : D}
/-- the value just made is put aside -/
theorem Sim.hide (S : Sim K (s :: ω) F G H (some d :: ρ) (some v :: σ)) : ∃ G', Sim K ω F G' H ρ σ ∧
    ∀ {ω' : List Sh} {F' H' : Hp} {ρ' : Rho} {σ' : L2.St}, Le F F' → Sim K ω' F' G' H' ρ' σ' → Sim K (s :: ω') F' G H' (some d :: ρ') (some v :: σ') := by
  obtain ⟨⟨fp, o, n⟩, l, g, dj⟩ := S
  cases o with
  | @bd _ _ _ _ _ _ f1 f2 w o nn =>
    have n1 : ∀ a ∈ f1, F a = none ∧ G a = none := fun a m => n a (List.mem_append_left _ m)
    have sub : ∀ {a : Addr}, G a ≠ none → withH G H f1 a ≠ none := fun {a} q => by
      by_cases m : a ∈ f1
      · exact absurd (n1 a m).2 q
      · rw [withH_out m]; exact q
    refine ⟨withH G H f1, ⟨⟨f2, o, fun a m => ⟨(n a (List.mem_append_right _ m)).1, ?_⟩⟩, l, withH_sub g, fun a q => ?_⟩, fun {ω' F' H' ρ' σ'} lf S' => ?_⟩
    · rw [withH_out fun z => nn a z m]; exact (n a (List.mem_append_right _ m)).2
    · by_cases m : a ∈ f1
      · exact (n1 a m).1
      · rw [withH_out m] at q; exact dj a q
    · obtain ⟨⟨fq, o', n'⟩, l', g', dj'⟩ := S'
      have live : ∀ a ∈ f1, withH G H f1 a ≠ none := fun a m => by
        obtain ⟨u, e⟩ := w.live a m
        rw [withH_in m, e]; exact fun z => nomatch z
      refine ⟨⟨f1 ++ fq, .bd (w.mono lf fun a m u e => g' a u (by rw [withH_in m]; exact e)) o' fun a m z => live a m (n' a z).2, fun a m => ?_⟩, l', fun a u e => ?_, fun a q => dj' a (sub q)⟩
      · rcases List.mem_append.mp m with m | m
        · exact ⟨dj' a (live a m), (n1 a m).2⟩
        · refine ⟨(n' a m).1, ?_⟩
          cases e : G a with
          | none => rfl
          | some u => exact absurd (n' a m).2 (sub (by rw [e]; exact fun z => nomatch z))
      · refine g' a u ?_
        rw [withH_out fun m => by rw [(n1 a m).2] at e; cases e]
        exact e
end
section
variable {X : Cx} {W : WX} {C : Sx} {ω : List Sh} {pos : Pos} {a b c e : Expr} {m m1 m2 m3 : M D} {sh : Sh}
/-- what is made is frozen -/
theorem de_fz (h : DE X W ω e sh m) : DE X W ω e .fz m := PE.imp h fun σ H Q ⟨F, G, ρ, S, q⟩ =>
  ⟨F, G, ρ, S, Res.sat_mono q (fun d ρ1 p v F1 H1 l S1 => by
    obtain ⟨F2, l2, S2⟩ := S1.wk (ω' := .fz :: ω) (.fz (Wk.refl _))
    exact p v F2 H1 (l.trans l2) S2) fun _ _ z => z⟩
/-! ### what is walked -/
structure Walks (K : Fg) (F : Hp) (J : It) (ds : List D) : Prop where
  go : ∀ F' H i, Le F F' → Le F' H → i < ds.length → J.go i H
  yld : ∀ F' H i x H' d, Le F F' → Le F' H → ds[i]? = some d → J.yld i H x H' → ∃ F'', Gr F' H F'' H' ∧ RD K F'' x d
  stop : ∀ F' H, Le F F' → Le F' H → J.stop ds.length H
def tI (K : Fg) (mg : Str → Option Value) (W : WX) (ω : List Sh) (m : M (List D)) : TI := fun σ H R => ∃ F G ρ, Sim K ω F G H ρ σ ∧
  (m ρ).sat (fun ds ρ' => ∀ J F' H', Le F F' → Sim K ω F' G H' ρ' σ → Walks K F' J ds → R J H') (Zx K mg W ω F G σ)
abbrev DI (X : Cx) (W : WX) (ω : List Sh) (tg iter : Expr) (m : M (List D)) : Prop := PI X tg iter (tI X.K X.mg W ω m)
theorem PI.imp {tg iter : Expr} {t t' : TI} (h : PI X tg iter t) (k : ∀ σ H Q, t' σ H Q → t σ H Q) : PI X tg iter t' := ⟨fun pins s σ H R I q => h.run pins s σ H R I (k σ H R q)⟩
theorem walks_lst {K : Fg} {F : Hp} {p : Addr} {xs : List V} {ds : List D} (h : SqL K F p xs) (huniq : ∀ F' H ys, Le F F' → Le F' H → SqL K H p ys → True) (r : RDs K F xs ds) : Walks K F (Itl K p) ds where
  go F' H i l l2 hi := by
    have hx : i < xs.length := by rw [r.length]; exact hi
    exact ⟨xs, xs[i], SqL.mono (l.trans l2) h, by simp [hx]⟩
  yld F' H i x H' d l l2 e y := by
    obtain ⟨rfl, y⟩ := y
    obtain ⟨v, ev, rv⟩ := r.get e
    have := y xs (SqL.mono (l.trans l2) h)
    rw [ev] at this
    cases this
    exact ⟨F', Gr.refl l2, rv.mono l⟩
  stop F' H l l2 := ⟨xs, SqL.mono (l.trans l2) h, Nat.le_of_eq r.length⟩
theorem walks_tup {K : Fg} {F : Hp} {p : Addr} {xs : List V} {ds : List D} (h : SqT K F p xs) (r : RDs K F xs ds) : Walks K F (Itt K p) ds where
  go F' H i l l2 hi := by
    have hx : i < xs.length := by rw [r.length]; exact hi
    exact ⟨xs, xs[i], SqT.mono (l.trans l2) h, by simp [hx]⟩
  yld F' H i x H' d l l2 e y := by
    obtain ⟨rfl, y⟩ := y
    obtain ⟨v, ev, rv⟩ := r.get e
    have := y xs (SqT.mono (l.trans l2) h)
    rw [ev] at this
    cases this
    exact ⟨F', Gr.refl l2, rv.mono l⟩
  stop F' H l l2 := ⟨xs, SqT.mono (l.trans l2) h, Nat.le_of_eq r.length⟩
def intsFrom (lo : Int) (n : Nat) : List D := (List.range n).map fun (i : Nat) => D.int (lo + i)
theorem intsFrom_len (lo : Int) (n : Nat) : (intsFrom lo n).length = n := by simp [intsFrom]
theorem walks_rng {K : Fg} {F : Hp} (lo : Int) (n : Nat) : Walks K F (Itr lo n) (intsFrom lo n) where
  go F' H i l l2 hi := by rw [intsFrom_len] at hi; exact hi
  yld F' H i x H' d l l2 e y := by
    obtain ⟨rfl, rfl⟩ := y
    have hi : i < n := by
      have := (List.getElem?_eq_some_iff.mp e).1
      rwa [intsFrom_len] at this
    have : (intsFrom lo n)[i]? = some (.int (lo + i)) := by simp [intsFrom, hi]
    rw [this] at e
    cases e
    exact ⟨F', Gr.refl l2, .int _⟩
  stop F' H l l2 := by rw [intsFrom_len]; exact Nat.le_refl _
/-- a list or a tuple -/
def seqD : D → Option (List D)
  | .lst xs => some xs
  | .tup xs => some xs
  | .scr xs => some xs
  | _ => none
def seqOf (m : M D) : M (List D) := bindM m fun d => liftO (seqD d)
theorem pi_any {l tg : Expr} {tl : TE} (hl : PE X l tl) : PI X tg l (fun σ H R => tl σ H fun x H1 => ∃ p, x = .ref p ∧ (((∃ xs, SqL X.K H1 p xs) ∧ R (Itl X.K p) H1) ∨ ((∃ xs, SqT X.K H1 p xs) ∧ R (Itt X.K p) H1))) := by
  refine ⟨fun pins s σ H R I h => thn (hl.run pins s σ H _ I h) fun v s1 ⟨x, H1, I1, r1, p, e, q⟩ => ?_⟩
  subst e
  cases r1
  rcases q with ⟨⟨xs, hq⟩, q⟩ | ⟨⟨xs, hq⟩, q⟩
  · obtain ⟨its, rv, pl, hz⟩ := I1.list hq
    refine wpAny_pyIter_list pl.isList ⟨_, [s1.heap.objs.size], _, _, H1, rfl, I1.kept (t' := s1.toks) fun b o e => Heap.get?_push_of_some _ e, turn_list p _, ⟨_, Heap.get?_push_size _ rfl, rfl, rfl⟩, fun b hb => ?_, q⟩
    cases List.mem_singleton.mp hb
    exact I1.fpOk (Nat.le_refl _) (I1.hok.fresh (Nat.le_refl _))
  · obtain ⟨its, rv, pl, hz⟩ := I1.tuple hq
    refine wpAny_pyIter_tuple (show s1.heap.IsTuple p its.toArray from pl) ⟨_, [s1.heap.objs.size], _, _, H1, rfl, I1.kept (t' := s1.toks) fun b o e => Heap.get?_push_of_some _ e, turn_tuple p _, ⟨_, Heap.get?_push_size _ rfl, rfl, rfl⟩, fun b hb => ?_, q⟩
    cases List.mem_singleton.mp hb
    exact I1.fpOk (Nat.le_refl _) (I1.hok.fresh (Nat.le_refl _))
theorem di_seq {tg l : Expr} (h : DE X W ω l .fz m) : DI X W ω tg l (seqOf m) :=
  PI.imp (pi_any h) fun σ H R ⟨F, G, ρ, S, q⟩ => by
    refine ⟨F, G, ρ, S, Res.sat_mono (Res.sat_bind q) (fun d ρ1 p v F1 H1 l S1 => ?_) fun _ _ z => z⟩
    obtain ⟨r, S2⟩ := S1.top
    unfold seqD at p
    cases r with
    | lst h rs => exact ⟨_, rfl, .inl ⟨⟨_, SqL.of (S2.fH _ _ h)⟩, p _ F1 H1 l S2 (walks_lst (SqL.of h) (fun _ _ _ _ _ _ => trivial) rs)⟩⟩
    | scr h rs => exact ⟨_, rfl, .inl ⟨⟨_, SqL.mono S2.fH h⟩, p _ F1 H1 l S2 (walks_lst h (fun _ _ _ _ _ _ => trivial) rs)⟩⟩
    | tup h rs => exact ⟨_, rfl, .inr ⟨⟨_, SqT.mono S2.fH h⟩, p _ F1 H1 l S2 (walks_tup h rs)⟩⟩
    | _ => exact p.elim
/-- range(n), range(a, b) -/
def small (i : Int) : Bool := decide (-(2 ^ 62) ≤ i) && decide (i < 2 ^ 62)
theorem small.le {i : Int} (h : small i = true) : -(2 ^ 62) ≤ i ∧ i < 2 ^ 62 := by
  unfold small at h
  rw [Bool.and_eq_true] at h
  exact ⟨of_decide_eq_true h.1, of_decide_eq_true h.2⟩
def rng1 : List D → Option (List D)
  | [.int n] => if small n then some (intsFrom 0 n.toNat) else none
  | _ => none
def rng2 : List D → Option (List D)
  | [.int a, .int b] => if small a && small b then some (intsFrom a (b - a).toNat) else none
  | _ => none
def ofArgs (g : List D → Option (List D)) (ms : M (List D)) : M (List D) := bindM ms fun ds => liftO (g ds)
theorem di_rng1 {tg e1 : Expr} {ms : M (List D)} {p : Pos} (hg : Gl X "range") (hm : X.mg "range" = none) (ha : DA X W ω [e1] ms) (hs : starEach [e1] X.env = [(false, eval e1 X.env)] := by rfl) :
    DI X W ω tg (.Call (.Name "range" p) [e1] [] pos) (ofArgs rng1 ms) :=
  PI.imp (pi_range1 hg hm ha hs) fun σ H R ⟨F, G, ρ, S, q⟩ => by
    refine ⟨F, G, ρ, S, Res.sat_mono (Res.sat_bind q) (fun ds ρ1 p vs F1 H1 l S1 rs => ?_) fun _ _ z => z⟩
    unfold rng1 at p
    split at p
    · rename_i n
      by_cases hn : small n = true
      · simp only [hn, if_true] at p
        cases rs with
        | cons r rs =>
          cases rs
          cases r
          exact ⟨n, rfl, (small.le hn).1, (small.le hn).2, p _ F1 H1 l S1 (walks_rng 0 n.toNat)⟩
      · simp only [hn] at p; exact p.elim
    · exact p.elim
theorem di_rng2 {tg e1 e2 : Expr} {ms : M (List D)} {p : Pos} (hg : Gl X "range") (hm : X.mg "range" = none) (ha : DA X W ω [e1, e2] ms) (hs : starEach [e1, e2] X.env = [(false, eval e1 X.env), (false, eval e2 X.env)] := by rfl) (hs2 : starEach [e2] X.env = [(false, eval e2 X.env)] := by rfl) :
    DI X W ω tg (.Call (.Name "range" p) [e1, e2] [] pos) (ofArgs rng2 ms) :=
  PI.imp (pi_range2 hg hm ha hs hs2) fun σ H R ⟨F, G, ρ, S, q⟩ => by
    refine ⟨F, G, ρ, S, Res.sat_mono (Res.sat_bind q) (fun ds ρ1 p vs F1 H1 l S1 rs => ?_) fun _ _ z => z⟩
    unfold rng2 at p
    split at p
    · rename_i n k
      by_cases hn : (small n && small k) = true
      · simp only [hn, if_true] at p
        rw [Bool.and_eq_true] at hn
        cases rs with
        | cons r rs =>
          cases rs with
          | cons r2 rs =>
            cases rs
            cases r; cases r2
            exact ⟨n, k, rfl, ⟨(small.le hn.1).1, (small.le hn.1).2, (small.le hn.2).1, (small.le hn.2).2⟩, p _ F1 H1 l S1 (walks_rng n (k - n).toNat)⟩
      · simp only [hn] at p; exact p.elim
    · exact p.elim
/-! ### for -/
def forM (t : Tg) (body : M Fl) : List D → M Fl
  | [] => nextM
  | d :: ds => fun ρ => match t d ρ with
    | none => .no
    | some ρ1 => match body ρ1 with
      | .ok .nx ρ2 => forM t body ds ρ2
      | .ok .ct ρ2 => forM t body ds ρ2
      | .ok .bk ρ2 => .ok .nx ρ2
      | r => r
def forS (ms : M (List D)) (t : Tg) (body : M Fl) : M Fl := bindM ms fun ds => forM t body ds
abbrev Sx.at_ (C : Sx) (ω : List Sh) : Sx := { C with ωl := ω }
theorem ds_for {tg iter : Expr} {body : List Stmt} {ms : M (List D)} {t : Tg} {vs : List Nat} {mb : M Fl} (wk : Wk ω C.ωe) (hp : PassesOwn (model X.prog X.w) X.A X.env X.xe) (hc : X.calm = true) (hi : DI X C.W ω tg iter ms) (hg : DG X ω vs tg t) (hb : DSs X (C.at_ ω) ω body ω mb)
    (hs : ∀ x, foldedSetIterable iter X.env x = pure x := by intro _; rfl) : DS X C ω (.For tg iter body [] pos) ω (forS ms t mb) :=
  PS.imp (ps_for hp hc hi hg hb hs) fun D σ H ⟨F, G, ρ, S, q⟩ => by
    refine ⟨F, G, ρ, S, Res.sat_mono (Res.sat_bind q) (fun ds ρ1 p J F1 H1 l S1 wl => ?_) fun _ _ z => z.zx wk⟩
    refine ⟨fun i n σ H => n = ds.length - i ∧ i ≤ ds.length ∧ ∃ F2 ρ2, Le F1 F2 ∧ Sim X.K ω F2 G H ρ2 σ ∧ (forM t mb (ds.drop i) ρ2).sat (wantS X.K C ω F2 G D) (zS X.K X.mg C F2 G),
      ⟨ds.length, by simp, Nat.zero_le _, F1, ρ1, Le.refl _, S1, Res.sat_mono p (fun _ _ z => z.le l) fun _ _ z => z.le l⟩, ?_⟩
    rintro i n σ2 H2 ⟨rfl, hi, F2, ρ2, l2, S2, q2⟩
    by_cases hlt : i < ds.length
    · have ed : ds.drop i = ds[i] :: ds.drop (i + 1) := List.drop_eq_getElem_cons hlt
      rw [ed] at q2
      refine .inr ⟨wl.go F2 H2 i l2 S2.fH hlt, fun σ' H' => ∃ F3 ρ3, Le F1 F3 ∧ Sim X.K ω F3 G H' ρ3 σ' ∧ (forM t mb (ds.drop (i + 1)) ρ3).sat (wantS X.K C ω F3 G D) (zS X.K X.mg C F3 G), fun σ' H' ⟨F3, ρ3, a, b, c⟩ => ⟨ds.length - (i + 1), by omega, rfl, hlt, F3, ρ3, a, b, c⟩, fun x H3 y => ?_⟩
      obtain ⟨F3, gr, rd⟩ := wl.yld F2 H2 i x H3 ds[i] l2 S2.fH (by simp [hlt]) y
      have S3 := S2.gr gr
      unfold forM at q2
      cases et : t ds[i] ρ2 with
      | none => rw [et] at q2; exact q2.elim
      | some ρ3 =>
        rw [et] at q2
        refine ⟨F3, G, ρ2, _, ρ3, rd, S3, et, fun σ4 F4 H4 _ l4 S4 => ⟨F4, G, ρ3, S4, ?_⟩⟩
        have l24 : Le F2 F4 := gr.lf.trans l4
        dsimp only at q2
        cases eb : mb ρ3 with
        | ok fl ρ5 =>
          rw [eb] at q2
          cases fl with
          | nx => exact fun σ' F' H' l' S' => ⟨F', ρ5, l2.trans (l24.trans l'), S', Res.sat_mono q2 (fun _ _ z => z.le (l24.trans l')) fun _ _ z => z.le (l24.trans l')⟩
          | ct => exact fun σ' F' H' l' S' => ⟨F', ρ5, l2.trans (l24.trans l'), S', Res.sat_mono q2 (fun _ _ z => z.le (l24.trans l')) fun _ _ z => z.le (l24.trans l')⟩
          | bk => exact fun σ' F' H' l' S' => q2 σ' F' H' (l24.trans l') S'
          | rt d => exact fun v F' H' l' S' => q2 v F' H' (l24.trans l') S'
        | exc x ρ5 => rw [eb] at q2; exact zS.le (C := C) l24 q2
        | no => rw [eb] at q2; exact q2.elim
    · have e : i = ds.length := by omega
      subst e
      refine .inl ⟨wl.stop F2 H2 l2 S2.fH, ?_⟩
      rw [List.drop_length] at q2
      exact q2 σ2 F2 H2 (Le.refl _) S2
/-! ### while -/
def whN (c : M Bool) (b : M Fl) : Nat → Rho → Option (Res Fl)
  | 0, _ => none
  | n + 1, ρ => match c ρ with
    | .ok false ρ1 => some (.ok .nx ρ1)
    | .ok true ρ1 => (match b ρ1 with
      | .ok .nx ρ2 => whN c b n ρ2
      | .ok .ct ρ2 => whN c b n ρ2
      | .ok .bk ρ2 => some (.ok .nx ρ2)
      | r => some r)
    | .exc e ρ1 => some (.exc e ρ1)
    | .no => some .no
theorem whN_more {c : M Bool} {b : M Fl} {r : Res Fl} : ∀ {n : Nat} {ρ : Rho}, whN c b n ρ = some r → whN c b (n + 1) ρ = some r
  | 0, _, h => by cases h
  | n + 1, ρ, h => by
    unfold whN at h ⊢
    cases ec : c ρ with
    | ok t ρ1 =>
      rw [ec] at h
      cases t with
      | false => exact h
      | true =>
        dsimp only at h ⊢
        cases eb : b ρ1 with
        | ok fl ρ2 =>
          rw [eb] at h
          cases fl with
          | nx => exact whN_more h
          | ct => exact whN_more h
          | bk => exact h
          | rt d => exact h
        | exc e ρ2 => rw [eb] at h; exact h
        | no => rw [eb] at h; exact h
    | exc e ρ1 => rw [ec] at h; exact h
    | no => rw [ec] at h; exact h
theorem whN_le {c : M Bool} {b : M Fl} {r : Res Fl} {n k : Nat} {ρ : Rho} (h : whN c b n ρ = some r) (l : n ≤ k) : whN c b k ρ = some r := by
  induction l with
  | refl => exact h
  | step _ ih => exact whN_more ih
theorem whN_one {c : M Bool} {b : M Fl} {r r' : Res Fl} {n k : Nat} {ρ : Rho} (h : whN c b n ρ = some r) (h' : whN c b k ρ = some r') : r = r' := by
  have a := whN_le h (Nat.le_max_left n k)
  have b := whN_le h' (Nat.le_max_right n k)
  rw [a] at b
  exact Option.some.inj b
open Classical in
/-- what the loop comes to, .no if it has no end -/
noncomputable def whileM (c : M Bool) (b : M Fl) : M Fl := fun ρ => if h : ∃ r, ∃ n, whN c b n ρ = some r then h.choose else .no
theorem whileM_of {c : M Bool} {b : M Fl} {r : Res Fl} {n : Nat} {ρ : Rho} (h : whN c b n ρ = some r) : whileM c b ρ = r := by
  have h' : ∃ r, ∃ n, whN c b n ρ = some r := ⟨r, n, h⟩
  unfold whileM
  rw [dif_pos h']
  obtain ⟨k, hk⟩ := h'.choose_spec
  exact whN_one hk h
theorem whileM_sat {c : M Bool} {b : M Fl} {ρ : Rho} {P : Fl → Rho → Prop} {Z : Exn → Rho → Prop} (h : (whileM c b ρ).sat P Z) : ∃ n r, whN c b n ρ = some r ∧ r.sat P Z := by
  unfold whileM at h
  split at h
  · rename_i h'
    obtain ⟨k, hk⟩ := h'.choose_spec
    exact ⟨k, _, hk, h⟩
  · exact h.elim
/-- one turn -/
theorem whileM_step {c : M Bool} {b : M Fl} {ρ : Rho} : whileM c b ρ = (match c ρ with
    | .ok false ρ1 => .ok .nx ρ1
    | .ok true ρ1 => (match b ρ1 with
      | .ok .nx ρ2 => whileM c b ρ2
      | .ok .ct ρ2 => whileM c b ρ2
      | .ok .bk ρ2 => .ok .nx ρ2
      | r => r)
    | .exc e ρ1 => .exc e ρ1
    | .no => .no) := by
  by_cases h : ∃ r, ∃ n, whN c b n ρ = some r
  · obtain ⟨r, n, hn⟩ := h
    rw [whileM_of hn]
    cases n with
    | zero => cases hn
    | succ n =>
      unfold whN at hn
      cases ec : c ρ with
      | ok t ρ1 =>
        rw [ec] at hn
        cases t with
        | false => exact (Option.some.inj hn).symm
        | true =>
          dsimp only at hn ⊢
          cases eb : b ρ1 with
          | ok fl ρ2 =>
            rw [eb] at hn
            cases fl with
            | nx => exact (whileM_of hn).symm
            | ct => exact (whileM_of hn).symm
            | bk => exact (Option.some.inj hn).symm
            | rt d => exact (Option.some.inj hn).symm
          | exc e ρ2 => rw [eb] at hn; exact (Option.some.inj hn).symm
          | no => rw [eb] at hn; exact (Option.some.inj hn).symm
      | exc e ρ1 => rw [ec] at hn; exact (Option.some.inj hn).symm
      | no => rw [ec] at hn; exact (Option.some.inj hn).symm
  · have e0 : whileM c b ρ = .no := by unfold whileM; rw [dif_neg h]
    rw [e0]
    have no : ∀ n r, whN c b n ρ ≠ some r := fun n r q => h ⟨r, n, q⟩
    cases ec : c ρ with
    | ok t ρ1 =>
      cases t with
      | false => exact absurd (show whN c b 1 ρ = _ by unfold whN; rw [ec]) (no 1 _)
      | true =>
        dsimp only
        have sub : ∀ {ρ2 : Rho}, (∀ n, whN c b (n + 1) ρ = whN c b n ρ2) → whileM c b ρ2 = .no := fun {ρ2} e => by
          unfold whileM
          rw [dif_neg]
          rintro ⟨r, n, q⟩
          exact no (n + 1) r ((e n).trans q)
        cases eb : b ρ1 with
        | ok fl ρ2 =>
          cases fl with
          | nx => exact (sub fun n => by rw [whN, ec]; dsimp only; rw [eb]).symm
          | ct => exact (sub fun n => by rw [whN, ec]; dsimp only; rw [eb]).symm
          | bk => exact absurd (show whN c b 1 ρ = _ by rw [whN, ec]; dsimp only; rw [eb]) (no 1 _)
          | rt d => exact absurd (show whN c b 1 ρ = _ by rw [whN, ec]; dsimp only; rw [eb]) (no 1 _)
        | exc e ρ2 => exact absurd (show whN c b 1 ρ = _ by rw [whN, ec]; dsimp only; rw [eb]) (no 1 _)
        | no => rfl
    | exc e ρ1 => exact absurd (show whN c b 1 ρ = _ by unfold whN; rw [ec]) (no 1 _)
    | no => rfl
theorem ds_while {cnd : Expr} {body : List Stmt} {mc : M Bool} {mb : M Fl} (wk : Wk ω C.ωe) (hp : PassesOwn (model X.prog X.w) X.A X.env X.xe) (hc : DT X C.W ω cnd mc) (hb : DSs X (C.at_ ω) ω body ω mb) : DS X C ω (.While cnd body [] pos) ω (whileM mc mb) :=
  PS.imp (ps_while hp hc hb) fun D σ H ⟨F, G, ρ, S, q⟩ => by
    obtain ⟨n0, r0, h0, q⟩ := whileM_sat q
    refine ⟨fun n σ H => ∃ F1 ρ1 r, Le F F1 ∧ Sim X.K ω F1 G H ρ1 σ ∧ whN mc mb n ρ1 = some r ∧ r.sat (wantS X.K C ω F1 G D) (zS X.K X.mg C F1 G), ⟨n0, F, ρ, r0, Le.refl _, S, h0, q⟩, ?_⟩
    rintro n σ1 H1 ⟨F1, ρ1, r, l1, S1, h1, q1⟩
    cases n with
    | zero => cases h1
    | succ n =>
      unfold whN at h1
      refine ⟨F1, G, ρ1, S1, ?_⟩
      cases ec : mc ρ1 with
      | ok t ρ2 =>
        rw [ec] at h1
        refine fun F2 H2 l2 S2 => ?_
        cases t with
        | false =>
          cases h1
          exact q1 σ1 F2 H2 l2 S2
        | true =>
          dsimp only at h1
          refine ⟨fun σ' H' => ∃ F3 ρ3 r, Le F F3 ∧ Sim X.K ω F3 G H' ρ3 σ' ∧ whN mc mb n ρ3 = some r ∧ r.sat (wantS X.K C ω F3 G D) (zS X.K X.mg C F3 G), fun σ' H' z => ⟨n, Nat.lt_succ_self _, z⟩, F2, G, ρ2, S2, ?_⟩
          cases eb : mb ρ2 with
          | ok fl ρ3 =>
            rw [eb] at h1
            cases fl with
            | nx => exact fun σ' F' H' l' S' => ⟨F', ρ3, r, l1.trans (l2.trans l'), S', h1, Res.sat_mono q1 (fun _ _ z => z.le (l2.trans l')) fun _ _ z => z.le (l2.trans l')⟩
            | ct => exact fun σ' F' H' l' S' => ⟨F', ρ3, r, l1.trans (l2.trans l'), S', h1, Res.sat_mono q1 (fun _ _ z => z.le (l2.trans l')) fun _ _ z => z.le (l2.trans l')⟩
            | bk => cases h1; exact fun σ' F' H' l' S' => q1 σ' F' H' (l2.trans l') S'
            | rt d => cases h1; exact fun v F' H' l' S' => q1 v F' H' (l2.trans l') S'
          | exc x ρ3 => rw [eb] at h1; cases h1; exact zS.le (C := C) l2 q1
          | no => rw [eb] at h1; cases h1; exact q1.elim
      | exc x ρ2 => rw [ec] at h1; cases h1; exact zS.zx wk q1
      | no => rw [ec] at h1; cases h1; exact q1.elim
end
end DL
/-! DL: list comprehensions; slices; what is owned, read. -/
namespace DL
open PySem PySem.Spec PyProof.Rows L2
/-- the block's own names forgotten -/
def wipeR (ρ : Rho) : List Nat → Rho
  | [] => ρ
  | v :: vs => (wipeR ρ vs).set v none
/-- .. and as they were -/
def restR (ρ0 : Rho) (ρ : Rho) : List Nat → Rho
  | [] => ρ
  | v :: vs => (restR ρ0 ρ vs).set v (ρ0.getD v none)
def restS (σ0 : L2.St) (σ : L2.St) : List Nat → L2.St
  | [] => σ
  | v :: vs => (restS σ0 σ vs).set v (σ0.getD v none)
theorem restS_wipe (σ : L2.St) : ∀ vs : List Nat, restS σ (wipe σ vs) vs = σ := by
  have key : ∀ vs ws : List Nat, (∀ i, i ∉ ws → (wipe σ ws)[i]? = σ[i]?) → ∀ i, (restS σ (wipe σ ws) vs)[i]? = if i ∈ vs then σ[i]? else (wipe σ ws)[i]? := by
    intro vs
    induction vs with
    | nil => intro ws h i; simp [restS]
    | cons v vs ih =>
      intro ws h i
      have ihi := ih ws h
      have len : ∀ vs, (restS σ (wipe σ ws) vs).length = σ.length := by
        intro vs
        induction vs with
        | nil => exact wipe_length σ ws
        | cons v vs ih => simpa [restS] using ih
      show ((restS σ (wipe σ ws) vs).set v (σ.getD v none))[i]? = _
      by_cases hv : v = i
      · subst hv
        rw [if_pos (List.mem_cons_self)]
        by_cases hl : v < σ.length
        · rw [List.getElem?_set_self (by rw [len]; exact hl)]
          simp [hl]
        · rw [List.getElem?_eq_none (by simpa [len] using hl), List.getElem?_eq_none (by simpa using hl)]
      · rw [List.getElem?_set_ne hv, ihi i]
        by_cases hi : i ∈ vs
        · rw [if_pos hi, if_pos (List.mem_cons_of_mem _ hi)]
        · rw [if_neg hi, if_neg (fun z => by rcases List.mem_cons.mp z with z | z; exact hv z.symm; exact hi z)]
  intro vs
  apply List.ext_getElem?
  intro i
  rw [key vs vs (fun i hi => wipe_out hi) i]
  by_cases hi : i ∈ vs
  · rw [if_pos hi]
  · rw [if_neg hi, wipe_out hi]
section
variable {K : Fg} {ω : List Sh} {F F' G H H' : Hp} {ρ : Rho} {σ : L2.St}
theorem Sim.wipe (S : Sim K ω F G H ρ σ) : ∀ {vs : List Nat}, (∀ i ∈ vs, ω[i]? = some .fz) → Sim K ω F G H (wipeR ρ vs) (L2.wipe σ vs)
  | [], _ => S
  | v :: vs, h => (Sim.wipe S fun i m => h i (List.mem_cons_of_mem _ m)).put (h v (List.mem_cons_self)) (.inl rfl)
theorem Sim.rest {ρ' : Rho} {σ' : L2.St} {G0 : Hp} (S0 : Sim K ω F G0 H ρ σ) (l : Le F F') (S : Sim K ω F' G H' ρ' σ') : ∀ {vs : List Nat}, (∀ i ∈ vs, ω[i]? = some .fz) → Sim K ω F' G H' (restR ρ ρ' vs) (restS σ σ' vs)
  | [], _ => S
  | v :: vs, h => by
    have hv := h v (List.mem_cons_self)
    refine (Sim.rest S0 l S (vs := vs) fun i m => h i (List.mem_cons_of_mem _ m)).put hv ?_
    cases e : ρ.getD v none with
    | none => exact .inl rfl
    | some d =>
      have e' : ρ[v]? = some (some d) := by
        rw [List.getD_eq_getElem?_getD] at e
        cases q : ρ[v]? with
        | none => rw [q] at e; cases e
        | some x => rw [q] at e; simpa using e
      obtain ⟨w, ew, rw'⟩ := S0.get hv e'
      refine .inr ⟨w, d, ?_, rfl, rw'.mono l⟩
      rw [List.getD_eq_getElem?_getD, ew]; rfl
end
/-- the turns of a comprehension -/
def lcL (vs : List Nat) (t : Tg) (tt : M Bool) (te : M D) : List D → M (List D)
  | [] => pureM []
  | d :: ds => fun ρ => match t d ρ with
    | none => .no
    | some ρ1 => match tt ρ1 with
      | .ok true ρ2 => (match te ρ2 with
        | .ok y ρ3 => (match lcL vs t tt te ds (wipeR ρ3 vs) with
          | .ok ys ρ4 => .ok (y :: ys) ρ4
          | _ => .no)
        | _ => .no)
      | .ok false ρ2 => lcL vs t tt te ds (wipeR ρ2 vs)
      | _ => .no
def lcM (vs : List Nat) (ms : M (List D)) (t : Tg) (tt : M Bool) (te : M D) : M D := bindM ms fun ds ρ =>
  if ds.length ≤ sizeLine then (match lcL vs t tt te ds (wipeR ρ vs) with
    | .ok ys ρ' => .ok (.lst ys) (restR ρ ρ' vs)
    | _ => .no) else .no
abbrev W0 : WX := fun _ _ _ _ => False
def yesM : M Bool := pureM true
section
variable {X : Cx} {W : WX} {C : Sx} {ω : List Sh} {pos : Pos} {a b c e : Expr} {m m1 m2 m3 : M D} {sh : Sh}
abbrev DTs (X : Cx) (W : WX) (ω : List Sh) (es : List Expr) (m : M Bool) : Prop := PTs X es (tT X.K X.mg W ω m)
theorem dts_nil : DTs X W ω [] yesM := ⟨fun pins s σ H Q I ⟨F, q⟩ => pts_nil.run pins s σ H Q I (tTF_pure q)⟩
theorem dts_one {m : M Bool} (h : DT X W ω e m) : DTs X W ω [e] m := pts_one h
theorem Tch.wipe {vs : List Nat} {σ σ' : L2.St} (t : Tch vs σ σ') : L2.wipe σ' vs = L2.wipe σ vs := by
  apply List.ext_getElem?
  intro i
  by_cases hi : i ∈ vs
  · have key : ∀ (τ : L2.St) (ws : List Nat), i ∈ ws → (L2.wipe τ ws)[i]? = if i < τ.length then some none else none := by
      intro τ ws
      induction ws with
      | nil => intro h; cases h
      | cons w ws ih =>
        intro h
        show ((L2.wipe τ ws).set w none)[i]? = _
        by_cases hw : w = i
        · subst hw
          by_cases hl : w < τ.length
          · rw [if_pos hl, List.getElem?_set_self (by rw [wipe_length]; exact hl)]
          · rw [if_neg hl, List.getElem?_eq_none (by rw [List.length_set, wipe_length]; omega)]
        · rw [List.getElem?_set_ne hw]
          exact ih ((List.mem_cons.mp h).resolve_left fun z => hw z.symm)
    rw [key _ _ hi, key _ _ hi, t.1]
  · rw [wipe_out hi, wipe_out hi, t.2 i hi]
/-- the reading of a comprehension -/
theorem tlc {ms : M (List D)} {t : Tg} {tt : M Bool} {te : M D} {vs : List Nat} (hv : ∀ i ∈ vs, ω[i]? = some .fz) {σ : L2.St} {H : Hp} {Q : VK} (h : tM X.K X.mg W ω (.lst .fz) (lcM vs ms t tt te) σ H Q) :
    tLc (tI X.K X.mg W ω ms) (tGD X.K ω vs t) (tT X.K X.mg W0 ω tt) (tM X.K X.mg W0 ω .fz te) vs σ H Q := by
  obtain ⟨F, G, ρ, S, q⟩ := h
  refine ⟨F, G, ρ, S, Res.sat_mono (Res.sat_bind q) (fun ds ρ1 p J F1 H1 l S1 wl D nD => ?_) fun _ _ z => z⟩
  by_cases hz : ds.length ≤ sizeLine
  · rw [if_pos hz] at p
    -- what is to hold between two turns
    refine ⟨fun i n H2 => n = ds.length - i ∧ i ≤ ds.length ∧ ∃ F2 ρ2 ys zs ρ3, Le F1 F2 ∧ Sim X.K (.lst .fz :: ω) F2 G H2 (some (.lst ys) :: ρ2) (some (.ref D) :: L2.wipe σ vs) ∧ ys.length ≤ i ∧
      lcL vs t tt te (ds.drop i) ρ2 = .ok zs ρ3 ∧ ∀ F' H' , Le F1 F' → Sim X.K (.lst .fz :: ω) F' G H' (some (.lst (ys ++ zs)) :: restR ρ1 ρ3 vs) (some (.ref D) :: σ) → Q (.ref D) H', ⟨ds.length, ?_⟩, ?_⟩
    · cases el : lcL vs t tt te ds (wipeR ρ1 vs) with
      | ok ys ρ2 =>
        rw [el] at p
        have SD := (S1.wipe hv).new (o := .lst []) nD
        refine ⟨by simp, Nat.zero_le _, F1, wipeR ρ1 vs, [], ys, ρ2, Le.refl _, ?_, Nat.le_refl _, el, fun F' H' l' S' => p _ F' H' (l.trans l') S'⟩
        -- the new list is owned
        obtain ⟨⟨fp, o, n⟩, a, b, dj⟩ := S1.wipe hv
        have fD : F1 D = none := a.none nD
        have gD : G D = none := b.none nD
        refine ⟨⟨[D] ++ fp, .bd (.lst upd_same (Owns.of_rds .nil) (fun z => by cases z)) (o.mono (Le.refl _) fun x m u e => by rw [upd_ne (ne_of_none e nD)]; exact e) fun x m z => ?_, fun x m => ?_⟩, fun x u e => ?_, fun x u e => ?_, dj⟩
        · have : x = D := by simpa using m
          subst this
          obtain ⟨u, e⟩ := o.live x z
          rw [nD] at e; cases e
        · rcases List.mem_append.mp m with m | m
          · have : x = D := by simpa using m
            subst this; exact ⟨fD, gD⟩
          · exact n x m
        · rw [upd_ne (ne_of_none e fD)]; exact a x u e
        · rw [upd_ne (ne_of_none e gD)]; exact b x u e
      | exc x ρ2 => rw [el] at p; exact p.elim
      | no => rw [el] at p; exact p.elim
    · rintro i n H2 ⟨rfl, hi, F2, ρ2, ys, zs, ρ3, l2, S2, hy, el, fin⟩
      by_cases hlt : i < ds.length
      · have ed : ds.drop i = ds[i] :: ds.drop (i + 1) := List.drop_eq_getElem_cons hlt
        rw [ed] at el
        unfold lcL at el
        refine .inr ⟨wl.go F2 H2 i l2 S2.fH hlt, fun H' => ∃ F3 ρ2 ys zs ρ3, Le F1 F3 ∧ Sim X.K (.lst .fz :: ω) F3 G H' (some (.lst ys) :: ρ2) (some (.ref D) :: L2.wipe σ vs) ∧ ys.length ≤ i + 1 ∧
          lcL vs t tt te (ds.drop (i + 1)) ρ2 = .ok zs ρ3 ∧ ∀ F' H' , Le F1 F' → Sim X.K (.lst .fz :: ω) F' G H' (some (.lst (ys ++ zs)) :: restR ρ1 ρ3 vs) (some (.ref D) :: σ) → Q (.ref D) H',
          fun H' z => ⟨ds.length - (i + 1), by omega, rfl, hlt, z⟩, fun x H3 y => ?_⟩
        obtain ⟨F3, gr, rd⟩ := wl.yld F2 H2 i x H3 ds[i] l2 S2.fH (by simp [hlt]) y
        obtain ⟨G', S3, back⟩ := (S2.gr gr).hide
        cases et : t ds[i] ρ2 with
        | none => rw [et] at el; cases el
        | some ρ4 =>
          rw [et] at el
          dsimp only at el
          refine ⟨F3, G', ρ2, _, ρ4, rd, S3, et, fun σ4 F4 H4 tc l4 S4 => ⟨by rw [tc.wipe]; exact (Tch.wipe (vs := vs) (σ := σ) ⟨wipe_length σ vs, fun j hj => wipe_out hj⟩), ?_⟩⟩
          have wσ : L2.wipe σ4 vs = L2.wipe σ vs := by rw [tc.wipe]; exact (Tch.wipe (vs := vs) (σ := σ) ⟨wipe_length σ vs, fun j hj => wipe_out hj⟩)
          refine ⟨F4, G', ρ4, S4, ?_⟩
          cases eb : tt ρ4 with
          | ok k ρ5 =>
            rw [eb] at el
            refine fun F5 H5 l5 S5 => ?_
            cases k with
            | true =>
              dsimp only at el
              rw [if_pos rfl]
              refine ⟨F5, G', ρ5, S5, ?_⟩
              cases ee : te ρ5 with
              | ok yd ρ6 =>
                rw [ee] at el
                dsimp only at el
                refine fun v F6 H6 l6 S6 => ?_
                obtain ⟨rv, S7⟩ := S6.top
                have l36 : Le F3 F6 := l4.trans (l5.trans l6)
                have S8 := back l36 S7
                obtain ⟨aD, acc, eD, hD, ra, up⟩ := S8.lst (i := 0) (s := .lst .fz) rfl rfl rfl
                have : aD = D := by
                  have q : (some (V.ref D) :: σ4)[0]? = some (some (V.ref D)) := rfl
                  rw [q] at eD
                  cases eD; rfl
                subst this
                cases er : lcL vs t tt te (ds.drop (i + 1)) (wipeR ρ6 vs) with
                | ok zs' ρ7 =>
                  rw [er] at el
                  cases el
                  refine ⟨acc, hD, by rw [ra.length]; omega, F6, wipeR ρ6 vs, ys ++ [yd], zs', _, l2.trans (gr.lf.trans l36), ?_, by rw [List.length_append]; simp; omega, er, fun F' H' l' S' => fin F' H' l' (by simpa using S')⟩
                  have S9 := up F6 H6 (acc ++ [v]) (ys ++ [yd]) (Gr.refl S7.fH) (ra.append (.cons rv .nil))
                  have S9' : Sim X.K (.lst .fz :: ω) F6 G (upd H6 aD (.lst (acc ++ [v]))) (some (.lst (ys ++ [yd])) :: ρ6) (some (.ref aD) :: σ4) := S9
                  have := Sim.wipe (vs := vs.map (· + 1)) S9' (fun j hj => by
                    obtain ⟨k, hk, rfl⟩ := List.mem_map.mp hj
                    simpa using hv k hk)
                  rw [← wσ]
                  have w1 : ∀ ws : List Nat, wipeR (some (D.lst (ys ++ [yd])) :: ρ6) (ws.map (· + 1)) = some (D.lst (ys ++ [yd])) :: wipeR ρ6 ws := by
                    intro ws
                    induction ws with
                    | nil => rfl
                    | cons w ws ih => show ((wipeR _ (ws.map (· + 1))).set (w + 1) none) = _; rw [ih]; rfl
                  have w2 : ∀ ws : List Nat, L2.wipe (some (V.ref aD) :: σ4) (ws.map (· + 1)) = some (V.ref aD) :: L2.wipe σ4 ws := by
                    intro ws
                    induction ws with
                    | nil => rfl
                    | cons w ws ih => show ((L2.wipe _ (ws.map (· + 1))).set (w + 1) none) = _; rw [ih]; rfl
                  rw [w1, w2] at this
                  exact this
                | exc x ρ7 => rw [er] at el; cases el
                | no => rw [er] at el; cases el
              | exc x ρ6 => rw [ee] at el; cases el
              | no => rw [ee] at el; cases el
            | false =>
              dsimp only at el
              rw [if_neg Bool.false_ne_true]
              have l35 : Le F3 F5 := l4.trans l5
              have S8 := back l35 S5
              refine ⟨F5, wipeR ρ5 vs, ys, zs, ρ3, l2.trans (gr.lf.trans l35), ?_, by omega, el, fin⟩
              rw [← wσ]
              obtain ⟨G2, S9, back2⟩ := S8.hide
              exact back2 (Le.refl _) (S9.wipe hv)
          | exc x ρ5 => rw [eb] at el; cases el
          | no => rw [eb] at el; cases el
      · have e : i = ds.length := by omega
        subst e
        rw [List.drop_length] at el
        cases el
        refine .inl ⟨wl.stop F2 H2 l2 S2.fH, fin F2 H2 l2 ?_⟩
        rw [List.append_nil]
        obtain ⟨G', S3, back⟩ := S2.hide
        have S4 := S1.rest l2 S3 hv
        rw [restS_wipe] at S4
        exact back (Le.refl _) S4
  · rw [if_neg hz] at p; exact p.elim
end
end DL
/-! DL: comprehensions as rules; what is owned, read and changed by methods. -/
namespace DL
open PySem PySem.Spec PyProof.Rows L2
section
variable {X : Cx} {W : WX} {C : Sx} {ω : List Sh} {pos : Pos} {a b c e : Expr} {m m1 m2 m3 : M D} {sh : Sh}
theorem hv_nil : ∀ i ∈ ([] : List Nat), ω[i]? = some .fz := fun _ h => by cases h
theorem hv_cons {i : Nat} {vs : List Nat} (h : ω[i]? = some .fz) (hs : ∀ i ∈ vs, ω[i]? = some .fz) : ∀ j ∈ i :: vs, ω[j]? = some .fz := fun j hj => (List.mem_cons.mp hj).elim (fun e => by rw [e]; exact h) (hs j)
theorem de_lc {elt tg iter : Expr} {ifs : List Expr} {scope : Scope} {own : List (Str × Nat)} {ms : M (List D)} {t : Tg} {tt : M Bool} {te : M D} (hc : X.calm = true) (hN : X.N.Nodup) (hv : ∀ i ∈ own.map (·.2), ω[i]? = some .fz) (hi : DI X W ω tg iter ms) (ok : BlkOk X.N X.env.scope scope own)
    (hg : ∀ (s : Shared) (H : Hp) (C : Addr) (cl : List (Str × Addr)) (fp : List Addr), DG (X.blk s H scope (compEnvC scope cl C X.env) fp) ω (own.map (·.2)) tg t)
    (ht : ∀ (s : Shared) (H : Hp) (C : Addr) (cl : List (Str × Addr)) (fp : List Addr), DTs (X.blk s H scope (compEnvC scope cl C X.env) fp) W0 ω ifs tt)
    (he : ∀ (s : Shared) (H : Hp) (C : Addr) (cl : List (Str × Addr)) (fp : List Addr), DE (X.blk s H scope (compEnvC scope cl C X.env) fp) W0 ω elt .fz te) (hs : ∀ x, foldedSetIterable iter X.env x = pure x := by intro _; rfl) :
    DE X W ω (.ListComp elt [⟨tg, iter, ifs, 0⟩] scope pos) (.lst .fz) (lcM (own.map (·.2)) ms t tt te) :=
  PE.imp (pe_lc hc hN hi ok hg ht he hs) fun σ H Q q => tlc hv q
/-- name = [..] -/
theorem ds_setLc {i : Nat} {y : Str} {py spos : Pos} {elt tg iter : Expr} {ifs : List Expr} {scope : Scope} {own : List (Str × Nat)} {ms : M (List D)} {t : Tg} {tt : M Bool} {te : M D} (wk : Wk ω C.ωe) (hc : X.calm = true) (hN : X.N.Nodup) (hy : X.N[i]? = some y)
    (hyl : X.env.scope.names.lookup y = some .local) (hsw : swapsWith (.ListComp elt [⟨tg, iter, ifs, 0⟩] scope pos) (some (.Name y py)) spos.line X.env = pure true)
    (hv : ∀ i ∈ own.map (·.2), ω[i]? = some .fz) (hi : DI X C.W ω tg iter ms) (ok : BlkOk X.N X.env.scope scope own)
    (hg : ∀ (s : Shared) (H : Hp) (C : Addr) (cl : List (Str × Addr)) (fp : List Addr), DG (X.blk s H scope (compEnvC scope cl C X.env) fp) ω (own.map (·.2)) tg t)
    (ht : ∀ (s : Shared) (H : Hp) (C : Addr) (cl : List (Str × Addr)) (fp : List Addr), DTs (X.blk s H scope (compEnvC scope cl C X.env) fp) W0 ω ifs tt)
    (he : ∀ (s : Shared) (H : Hp) (C : Addr) (cl : List (Str × Addr)) (fp : List Addr), DE (X.blk s H scope (compEnvC scope cl C X.env) fp) W0 ω elt .fz te) (hs : ∀ x, foldedSetIterable iter X.env x = pure x := by intro _; rfl) :
    DS X C ω (.Assign [.Name y py] (.ListComp elt [⟨tg, iter, ifs, 0⟩] scope pos) spos) (ω.set i (.lst .fz)) (setM i (lcM (own.map (·.2)) ms t tt te)) :=
  PS.imp (ps_setLc hc hN hy hyl hsw hi ok hg ht he hs) fun D σ H q => by
    obtain ⟨F, q⟩ := tS_bind (sh := .lst .fz) wk q
    exact tlc hv ⟨F, tMF_mono q fun x H1 ⟨d, F1, G, ρ1, S, z⟩ => z _ F1 H1 (Le.refl _) (S.set i)⟩
/-! ### what changes nothing -/
def Pur {α : Type} (m : M α) : Prop := ∀ ρ, match m ρ with
  | .ok _ ρ' => ρ' = ρ
  | .exc _ _ => False
  | .no => True
theorem pur_pure {α : Type} {x : α} : Pur (pureM x) := fun _ => rfl
theorem pur_fail {α : Type} : Pur (failM : M α) := fun _ => trivial
theorem pur_lift {α : Type} {x : Option α} : Pur (liftO x) := fun ρ => by cases x <;> first | rfl | trivial
theorem pur_get {i : Nat} : Pur (getV i) := fun ρ => by
  unfold getV
  cases ρ[i]? with
  | none => trivial
  | some x => cases x <;> first | trivial | rfl
theorem pur_bind {α β : Type} {m : M α} {f : α → M β} (h : Pur m) (hf : ∀ a, Pur (f a)) : Pur (bindM m f) := fun ρ => by
  have h0 := h ρ
  unfold bindM
  cases e : m ρ with
  | ok x ρ1 =>
    rw [e] at h0
    dsimp only at h0 ⊢
    subst h0
    exact hf x ρ1
  | exc x ρ1 => rw [e] at h0; exact h0.elim
  | no => trivial
theorem pur_ite {α : Type} {c : Prop} [Decidable c] {x y : M α} (hx : Pur x) (hy : Pur y) : Pur (if c then x else y) := by split <;> assumption
def fzs (ω : List Sh) : List Sh := ω.map fun _ => .fz
theorem wk_fzs : ∀ ω : List Sh, Wk ω (fzs ω)
  | [] => .nil
  | _ :: ω => .fz (wk_fzs ω)
def flatD : D → Bool
  | .non => true
  | .bl _ => true
  | .int _ => true
  | .str _ => true
  | .ty _ => true
  | _ => false
theorem RD.flat {K : Fg} {F F' : Hp} {v : V} {d : D} (r : RD K F v d) (h : flatD d = true) : RD K F' v d := by
  cases r with
  | non => exact .non
  | bl b => exact .bl b
  | int b => exact .int b
  | str b => exact .str b
  | ty b => exact .ty b
  | _ => cases h
/-- a look at names whose data are frozen for this while -/
theorem Sim.back {K : Fg} {F F1 F2 G H H2 : Hp} {ρ : Rho} {σ : L2.St} (S : Sim K ω F G H ρ σ) (S1 : Sim K (fzs ω) F1 G H ρ σ) (cover : ∀ fp, OwnL K F H ω σ ρ fp → ∀ a ∈ fp, ∀ o, H a = some o → F1 a = some o) (lF : Le F F1) (l : Le F1 F2) (gH2 : Le G H2) (fH2 : Le F2 H2) : Sim K ω F G H2 ρ σ := by
  obtain ⟨⟨fp, o, n⟩, a, b, dj⟩ := S
  exact ⟨⟨fp, o.mono (Le.refl _) fun x m u e => fH2 x u (l x u (cover fp o x m u e)), n⟩, lF.trans (l.trans fH2), gH2, dj⟩
theorem OwnL.fzs {K : Fg} {F H : Hp} {ρ : Rho} {σ : L2.St} {fp : List Addr} (o : OwnL K F H ω σ ρ fp) (n : ∀ a ∈ fp, F a = none) : OwnL K (withH F H fp) H (DL.fzs ω) σ ρ [] := by
  have key : ∀ {F' : Hp}, Le F F' → (∀ a ∈ fp, ∀ u, H a = some u → F' a = some u) → OwnL K F' H (DL.fzs ω) σ ρ [] := by
    intro F' l k
    clear n
    induction o with
    | nil => exact .nil
    | un o ih => exact .un (ih k)
    | bd w o nn ih =>
      exact OwnL.bd (fp := []) (.fz (w.rd l fun a m => k a (List.mem_append_left _ m))) (ih fun a m => k a (List.mem_append_right _ m)) (fun _ m => by cases m)
  exact key (withH_le n) fun a m u e => by rw [withH_in m]; exact e
theorem Sim.frozen {K : Fg} {F G H : Hp} {ρ : Rho} {σ : L2.St} (S : Sim K ω F G H ρ σ) : ∃ F1, Le F F1 ∧ Sim K (fzs ω) F1 G H ρ σ ∧ ∀ F2 H2, Le F1 F2 → Le F2 H2 → Le G H2 → Sim K ω F G H2 ρ σ := by
  obtain ⟨⟨fp, o, n⟩, a, b, dj⟩ := S
  refine ⟨withH F H fp, withH_le fun x m => (n x m).1, ⟨⟨[], o.fzs fun x m => (n x m).1, fun _ m => by cases m⟩, withH_sub a, b, fun x q => ?_⟩, fun F2 H2 l l2 g => ?_⟩
  · rw [withH_out fun m => q (n x m).2]; exact dj x q
  · exact ⟨⟨fp, o.mono (Le.refl _) fun x m u e => l2 x u (l x u (by rw [withH_in m]; exact e)), n⟩, (withH_le fun x m => (n x m).1).trans (l.trans l2), g, dj⟩
def flatM (m : M D) : M D := bindM m fun d => if flatD d = true then pureM d else failM
theorem de_borrow (h : DE X W (fzs ω) e .fz m) (p : Pur m) : DE X W ω e .fz (flatM m) := PE.imp h fun σ H Q ⟨F, G, ρ, S, q⟩ => by
  obtain ⟨F1, l1, S1, back⟩ := S.frozen
  refine ⟨F1, G, ρ, S1, ?_⟩
  have p0 := p ρ
  have q1 := Res.sat_bind q
  cases e : m ρ with
  | ok d ρ1 =>
    rw [e] at p0 q1
    have p0 : ρ1 = ρ := p0
    subst p0
    refine fun v F2 H2 l2 S2 => ?_
    obtain ⟨r, S3⟩ := S2.top
    have q2 : ((if flatD d = true then pureM d else failM : M D) ρ1).sat _ _ := q1
    by_cases hf : flatD d = true
    · rw [if_pos hf] at q2
      exact q2 v F H2 (Le.refl _) ((back F2 H2 l2 S3.fH S3.gH).push (r.flat hf))
    · rw [if_neg hf] at q2; exact q2.elim
  | exc x ρ1 => rw [e] at p0; exact p0.elim
  | no => rw [e] at q1; exact q1.elim
theorem dt_borrow {mt : M Bool} (h : DT X W (fzs ω) e mt) (p : Pur mt) : DT X W ω e mt := PT.imp h fun σ H Q ⟨F, G, ρ, S, q⟩ => by
  obtain ⟨F1, l1, S1, back⟩ := S.frozen
  refine ⟨F1, G, ρ, S1, ?_⟩
  have p0 := p ρ
  cases e : mt ρ with
  | ok d ρ1 =>
    rw [e] at p0 q
    have p0 : ρ1 = ρ := p0
    subst p0
    exact fun F2 H2 l2 S2 => q F H2 (Le.refl _) (back F2 H2 l2 S2.fH S2.gH)
  | exc x ρ1 => rw [e] at p0; exact p0.elim
  | no => rw [e] at q; exact q.elim
/-! ### an owned list: an item, append, pop -/
def atO (i : Nat) (k : D) : M D := fun ρ => match ρ[i]? with
  | some (some (.lst xs)) => (match k with
    | .int j => (match atI xs j with
      | some d => .ok d ρ
      | none => .no)
    | _ => .no)
  | _ => .no
def ixoM (i : Nat) (mk : M D) : M D := bindM (chkM i) fun _ => bindM mk (atO i)
theorem chkM_ok {i : Nat} {ρ : Rho} {P : D → Rho → Prop} {Z : Exn → Rho → Prop} (h : (chkM i ρ).sat P Z) : ∃ ds, ρ[i]? = some (some (.lst ds)) ∧ P .non ρ := by
  unfold chkM at h
  split at h
  · rename_i ds e; exact ⟨ds, e, h⟩
  · exact h.elim
theorem de_ixo {i : Nat} {x : Str} {p' : Pos} {ix : Expr} {mk : M D} {s : Sh} (h1 : ω[i]? = some s) (hs : coreSh s = .lst .fz) (hv : PE X (.Name x p') (tVar i)) (hk : DE X W ω ix .fz mk) (hp : PlainIx ix) : DE X W ω (.Subscript (.Name x p') ix pos) .fz (ixoM i mk) :=
  PE.imp (pe_ix ix_list hv hk hp) fun σ H Q ⟨F, G, ρ, S, q⟩ => by
    obtain ⟨ds, e0, q⟩ := chkM_ok (Res.sat_bind q)
    obtain ⟨al, xs, ea, _⟩ := S.lst h1 hs e0
    refine ⟨_, ea, F, G, ρ, S, Res.sat_mono (Res.sat_bind q) (fun k ρ1 p v F1 H1 l S1 => ?_) fun _ _ z => z⟩
    obtain ⟨rk, S2⟩ := S1.top
    unfold atO at p
    split at p
    · rename_i ds1 e1
      split at p
      · rename_i j
        cases rk
        obtain ⟨al', xs', ea', hx, rs, _⟩ := S2.lst h1 hs e1
        rw [ea] at ea'
        cases ea'
        cases eat : atI ds1 j with
        | none => rw [eat] at p; exact p.elim
        | some d =>
          rw [eat] at p
          obtain ⟨w, ew, rw'⟩ := rs.at eat
          exact ⟨al, xs', j, w, rfl, rfl, SqL.of hx, ew, p w F1 H1 l (S2.push rw')⟩
      · exact p.elim
    · exact p.elim
def appO (d : D) (xs : List D) : Option (List D) := if xs.length < sizeLine then some (xs ++ [d]) else none
def appM' (i : Nat) (m : M D) : M Fl := bindM (chkM i) fun _ => bindM m fun d => updM i (appO d)
theorem ds_append {i : Nat} {x : Str} {p' apos cpos : Pos} {s : Sh} (wk : Wk ω C.ωe) (h1 : ω[i]? = some s) (hs : coreSh s = .lst .fz) {r : V → List V → Hp → VK → Prop}
    (hx : PS X (.Expr (.Call (.Attribute (.Name x p') "append" apos) [e] [] cpos) pos) (tDrop (tBM X.K "list" rAppend (tVar i) (tCons (tM X.K X.mg C.W ω .fz m) tNil)))) : DS X C ω (.Expr (.Call (.Attribute (.Name x p') "append" apos) [e] [] cpos) pos) ω (appM' i m) :=
  PS.imp hx fun D σ H ⟨F, G, ρ, S, q⟩ => by
    obtain ⟨ds, e0, q⟩ := chkM_ok (Res.sat_bind q)
    obtain ⟨al, xs, ea, hx0, _⟩ := S.lst h1 hs e0
    refine ⟨_, ea, .inl ⟨rfl, xs, SqL.of hx0⟩, F, G, ρ, S, Res.sat_mono (Res.sat_bind q) (fun d ρ1 p v F1 H1 l S1 => ?_) fun _ _ z => z.zx wk⟩
    obtain ⟨rd, S2⟩ := S1.top
    unfold updM at p
    split at p
    · rename_i ds1 e1
      split at p
      · rename_i ys ey
        unfold appO at ey
        split at ey
        · rename_i hl
          cases ey
          obtain ⟨al', xs', ea', hx, rs, up⟩ := S2.lst h1 hs e1
          rw [ea] at ea'
          cases ea'
          exact ⟨al, xs', v, rfl, rfl, hx, by rw [rs.length]; exact hl, p σ F1 _ l (up F1 H1 _ _ (Gr.refl S2.fH) (rs.append (.cons rd .nil)))⟩
        · cases ey
      · exact p.elim
    · exact p.elim
/-- xs.pop(), xs.pop(0) -/
def popO (xs : List D) : Option (D × List D) := match xs[xs.length - 1]? with
  | some d => some (d, xs.dropLast)
  | none => none
def popAtO (j : Int) (xs : List D) : Option (D × List D) := if -(2 ^ 63) ≤ j ∧ j < 2 ^ 63 then (match ixN xs.length j with
  | some k => (match xs[k]? with
    | some d => some (d, xs.eraseIdx k)
    | none => none)
  | none => none) else none
def takeM (i : Nat) (g : List D → Option (D × List D)) : M D := fun ρ => match ρ[i]? with
  | some (some (.lst xs)) => (match g xs with
    | some (d, ys) => .ok d (ρ.set i (some (.lst ys)))
    | none => .no)
  | _ => .no
theorem RDs.dropLast {K : Fg} {F : Hp} {vs : List V} {ds : List D} (h : RDs K F vs ds) : RDs K F vs.dropLast ds.dropLast := by
  rw [List.dropLast_eq_take, List.dropLast_eq_take, h.length]; exact h.take _
theorem RDs.erase {K : Fg} {F : Hp} : ∀ {vs : List V} {ds : List D} (i : Nat), RDs K F vs ds → RDs K F (vs.eraseIdx i) (ds.eraseIdx i)
  | _, _, _, .nil => .nil
  | _, _, 0, .cons a b => b
  | _, _, i + 1, .cons a b => .cons a (RDs.erase i b)
theorem de_pop {i : Nat} {x : Str} {p' apos cpos : Pos} {s : Sh} (h1 : ω[i]? = some s) (hs : coreSh s = .lst .fz) (hx : PE X (.Call (.Attribute (.Name x p') "pop" apos) [] [] cpos) (tBM0 X.K "list" rPop (tVar i))) : DE X W ω (.Call (.Attribute (.Name x p') "pop" apos) [] [] cpos) .fz (takeM i popO) :=
  PE.imp hx fun σ H Q ⟨F, G, ρ, S, q⟩ => by
    unfold takeM at q
    split at q
    · rename_i ds e0
      obtain ⟨al, xs, ea, hx0, rs, up⟩ := S.lst h1 hs e0
      split at q
      · rename_i d ys ey
        unfold popO at ey
        split at ey
        · rename_i d' ed
          cases ey
          obtain ⟨v, ev, rv⟩ := rs.get ed
          refine ⟨_, ea, .inl ⟨rfl, xs, SqL.of hx0⟩, al, xs, v, rfl, rfl, hx0, by rw [rs.length]; exact ev, ?_⟩
          exact q v F _ (Le.refl _) ((up F H _ _ (Gr.refl S.fH) rs.dropLast).push rv)
        · cases ey
      · exact q.elim
    · exact q.elim
theorem de_popAt {i : Nat} {j : Int} {x : Str} {p' apos cpos : Pos} {ix : Expr} {s : Sh} (h1 : ω[i]? = some s) (hs : coreSh s = .lst .fz) (hx : PE X (.Call (.Attribute (.Name x p') "pop" apos) [ix] [] cpos) (tBM X.K "list" rPopAt (tVar i) (tCons (tC (.int j)) tNil))) :
    DE X W ω (.Call (.Attribute (.Name x p') "pop" apos) [ix] [] cpos) .fz (takeM i (popAtO j)) :=
  PE.imp hx fun σ H Q ⟨F, G, ρ, S, q⟩ => by
    unfold takeM at q
    split at q
    · rename_i ds e0
      obtain ⟨al, xs, ea, hx0, rs, up⟩ := S.lst h1 hs e0
      split at q
      · rename_i d ys ey
        unfold popAtO at ey
        split at ey
        · rename_i hj
          split at ey
          · rename_i k ek
            split at ey
            · rename_i d' ed
              cases ey
              obtain ⟨v, ev, rv⟩ := rs.get ed
              refine ⟨_, ea, .inl ⟨rfl, xs, SqL.of hx0⟩, al, xs, j, k, v, rfl, rfl, hx0, hj.1, hj.2, (ixN_seq (by rw [rs.length]; exact ek)).1, ev, ?_⟩
              exact q v F _ (Le.refl _) ((up F H _ _ (Gr.refl S.fH) (rs.erase k)).push rv)
            · cases ey
          · cases ey
        · cases ey
      · exact q.elim
    · exact q.elim
end
end DL
/-! DL: defs: what a def is worth, by its body; its calls; the law's end. -/
namespace DL
open PySem PySem.Spec PyProof.Rows L2
/-- a def's promise, wherever no repr is under way -/
structure FnG (P : Program) (w : World) (K : Fg) (mg : Str → Option Value) (base : Heap) (k : Nat) (f : Addr) (fd : FuncData) (ps : List Str) (sp : Sp) : Prop where
  len : ∀ vs H Q E, sp vs H Q E → vs.length = ps.length
  run : ∀ (A : Around) (outer : List Env) (s : Shared) (H : Hp) (args : Args) (us : List Value) (vs : List V) (Q : VK) (E : XK), Room k A → A.guards = some [] → Env0 P w K mg base A outer s H →
    BindsTo s fd args (ps.zip us) → Vals vs us → sp vs H Q E → codeAny (model P w) A (.call (.ref f) args) (CR (L2.CX P w) outer P w H s Q E) s
theorem FnG.mono {P : Program} {w : World} {K : Fg} {mg : Str → Option Value} {base : Heap} {j k : Nat} {f : Addr} {fd : FuncData} {ps : List Str} {sp : Sp} (F : FnG P w K mg base j f fd ps sp) (h : j ≤ k) : FnG P w K mg base k f fd ps sp :=
  ⟨F.len, fun A outer s H args us vs Q E hr => F.run A outer s H args us vs Q E (hr.mono h)⟩
theorem FnOk.toG {P : Program} {w : World} {K : Fg} {mg : Str → Option Value} {base : Heap} {k : Nat} {f : Addr} {fd : FuncData} {ps : List Str} {sp : Sp} (F : FnOk P w K mg base (L2.CX P w) k f fd ps sp) : FnG P w K mg base k f fd ps sp :=
  ⟨F.len, fun A outer s H args us vs Q E hr _ => F.run A outer s H args us vs Q E hr⟩
section
variable {P : Program} {w : World} {K : Fg} {mg : Str → Option Value} {base : Heap} {k : Nat} {f : Addr} {N ps : List Str} {sp : Sp}
/-- a def keeps its promise, by its body -/
theorem fnG {x qual : Str} {st : Stmt} {fd : FuncData} (Fn : Fun K x qual st f fd) (S : FnScope N ps (defScope st)) (len : ∀ vs H Q E, sp vs H Q E → vs.length = ps.length)
    (hb : ∀ (cdv : Value) (A : Around) (outer : List Env) (s : Shared) (H : Hp) (vs : List V) (Q : VK) (E : XK), Room k (A.deeper (envOfC qual (defScope st) s.heap.objs.size f cdv)) → A.guards = some [] → sp vs H Q E →
      ∃ t, PSs (cxOf (L2.CX P w) P w K mg base N qual (defScope st) f cdv A outer s H E) (defBody st) t ∧ t { nx := fun _ H' => Q .non H', rt := Q } (start N vs) H) : FnG P w K mg base (k + 1) f fd ps sp := by
  obtain ⟨oc, od, kV, doc, pm, an, cdv, ct, osl, rfl, lk, hcd⟩ := Fn.ex
  refine ⟨len, fun A outer s H args us vs Q E room gd en bt rv want => ?_⟩
  have inK : K.In s.heap := en.mod.kin.keeps fun b o e => (en.bs b o e).1
  obtain ⟨t, body, reads⟩ := hb cdv A outer s H vs Q E (room.deeper _) gd want
  have kinds : ∀ y ∈ ps.zip us, (defScope st).names.lookup y.1 = some .local ∨ ((defScope st).names.lookup y.1 = some .cell ∧ ((cellsFrom (s.heap.objs.size + 1) (defScope st).names []).lookup y.1).isSome = true) := by
    rintro ⟨n, v⟩ hy
    exact (S.par n (List.of_mem_zip hy).1).imp id fun q => ⟨q, PySem.W.cellsFrom_some _ _ _ (.inl q)⟩
  refine codeAny_call_function room.depth (inK _ _ lk) rfl S.co S.gen rfl (PySem.W.codeRec_of inK hcd) (bt _ _ _ _ (wpAny_newFunctionEnv_cells S.kind kinds fun env he s1 x => ?_))
  subst he
  refine ⟨(en.mod.nolimit.keeps fun b o e => (en.bs b o e).1).keeps x.toInCall.keep, codeAny_func (wpAny_mono (body.run [] s1 (start N vs) H _ (inv_start S room.hd en (len _ _ _ _ want) rv x) reads) (fun fl s' hs => ?_) fun _ _ z => z)⟩
  cases fl with
  | next =>
    obtain ⟨σ', H', J, q⟩ := hs
    exact ⟨.non, H', J.os, J.bare, J.base, J.hok, rfl, q⟩
  | ret u =>
    obtain ⟨v, σ', H', J, r, q⟩ := hs
    exact ⟨v, H', J.os, J.bare, J.base, J.hok, r, q⟩
  | brk => exact hs.elim fun _ z => z.elim fun _ z => z.2.elim
  | cont => exact hs.elim fun _ z => z.elim fun _ z => z.2.elim
end
/-! ### the promises by data -/
/-- frozen arguments; the answer of shape rs -/
def spF (K : Fg) (mg : Str → Option Value) (np : Nat) (rs : Sh) (f : List D → Res D) : Sp := fun vs H Q E => vs.length = np ∧ ∃ F G ds, RDs K F vs ds ∧ Le F H ∧ Le G H ∧ (∀ a, G a ≠ none → F a = none) ∧
  (f ds).sat (fun d _ => ∀ v F' H', Le F F' → Sim K [rs] F' G H' [some d] [some v] → Q v H')
    fun e _ => ∀ F' H' cls dx, Le F F' → Le F' H' → Le G H' → (∀ a, G a ≠ none → F' a = none) → ExIs K mg F' H' e cls dx → E cls dx H'
/-- .. the first argument a list that the caller owns -/
def spP (K : Fg) (mg : Str → Option Value) (np : Nat) (rs : Sh) (f : List D → Res D) : Sp := fun vs H Q E => vs.length = np + 1 ∧ ∃ F G a xs vs' ds ds', vs = .ref a :: vs' ∧ H a = some (.lst xs) ∧ F a = none ∧ G a = none ∧ RDs K F xs ds ∧ RDs K F vs' ds' ∧
  Le F H ∧ Le G H ∧ (∀ a, G a ≠ none → F a = none) ∧
  (f (.lst ds :: ds')).sat (fun d ρo => ∀ v F' H', Le F F' → Sim K [rs, .pin a (.lst .fz)] F' G H' (some d :: ρo) [some v, some (.ref a)] → Q v H')
    fun e _ => ∀ F' H' cls dx, Le F F' → Le F' H' → Le G H' → (∀ a, G a ≠ none → F' a = none) → ExIs K mg F' H' e cls dx → E cls dx H'
/-- the body b run at the arguments -/
def runB (n : Nat) (shs : List Sh) (thru : Bool) (b : M Fl) (ds : List D) : Res D := match b (ds.map some ++ List.replicate (n - ds.length) none) with
  | .ok (.rt d) ρ => .ok d (keep shs ρ)
  | .ok .nx ρ => if thru = true then .ok .non (keep shs ρ) else .no
  | .exc e _ => .exc e []
  | _ => .no
theorem runB_sat {n : Nat} {shs : List Sh} {thru : Bool} {b : M Fl} {ds : List D} {P : D → Rho → Prop} {Z : Exn → Rho → Prop} (h : (runB n shs thru b ds).sat P Z) :
    (b (ds.map some ++ List.replicate (n - ds.length) none)).sat (fun fl ρ => match fl with | .rt d => P d (keep shs ρ) | .nx => thru = true ∧ P .non (keep shs ρ) | _ => False) fun e _ => Z e [] := by
  unfold runB at h
  cases e : b (ds.map some ++ List.replicate (n - ds.length) none) with
  | ok fl ρ =>
    rw [e] at h
    cases fl with
    | rt d => exact h
    | nx =>
      cases thru with
      | true => exact ⟨rfl, h⟩
      | false => exact h.elim
    | bk => exact h.elim
    | ct => exact h.elim
  | exc x ρ => rw [e] at h; exact h
  | no => rw [e] at h; exact h.elim
theorem OwnL.rds {K : Fg} {F H : Hp} : ∀ {vs : List V} {ds : List D}, RDs K F vs ds → OwnL K F H (List.replicate ds.length .fz) (vs.map some) (ds.map some) []
  | _, _, .nil => .nil
  | _, _, .cons r rs => OwnL.bd (fp := []) (.fz r) (OwnL.rds rs) (fun _ m => by cases m)
theorem OwnL.app {K : Fg} {F H : Hp} {ω : List Sh} {σ : L2.St} {ρ : Rho} {fp : List Addr} (o : OwnL K F H ω σ ρ fp) (n : Nat) : OwnL K F H (ω ++ List.replicate n .fz) (σ ++ List.replicate n none) (ρ ++ List.replicate n none) fp := by
  induction o with
  | nil =>
    rw [List.nil_append, List.nil_append, List.nil_append]
    induction n with
    | zero => exact .nil
    | succ n ih => rw [List.replicate_succ, List.replicate_succ, List.replicate_succ]; exact .un ih
  | un _ ih => exact .un ih
  | bd w _ n ih => exact .bd w ih n
/-- the surroundings of a def's body -/
abbrev sxF (N : List Str) (rs : Sh) (E : XK) : Sx := ⟨fun cls d _ H => E cls d H, List.replicate N.length .fz, ⟨rs, [], [], []⟩, []⟩
abbrev sxP (N : List Str) (rs : Sh) (a : Addr) (E : XK) : Sx := ⟨fun cls d _ H => E cls d H, List.replicate N.length .fz, ⟨rs, [.lst .fz], [.pin a (.lst .fz)], [some (.ref a)]⟩, []⟩
section
variable {P : Program} {w : World} {K : Fg} {mg : Str → Option Value} {base : Heap} {k : Nat} {f : Addr} {N ps : List Str}
/-- a def whose arguments are frozen -/
theorem fnF {x qual : Str} {st : Stmt} {fd : FuncData} {rs : Sh} {ω' : List Sh} {b : M Fl} (thru : Bool) (Fn : Fun K x qual st f fd) (S : FnScope N ps (defScope st))
    (hb : ∀ (cdv : Value) (A : Around) (outer : List Env) (s : Shared) (H : Hp) (E : XK), Room k (A.deeper (envOfC qual (defScope st) s.heap.objs.size f cdv)) → A.guards = some [] →
      DSs (cxOf (L2.CX P w) P w K mg base N qual (defScope st) f cdv A outer s H E) (sxF N rs E) (List.replicate N.length .fz) (defBody st) ω' b)
    (hn : ps.length ≤ N.length := by decide) (hrs : thru = true → rs = .fz := by first | exact fun _ => rfl | exact fun z => nomatch z) :
    FnG P w K mg base (k + 1) f fd ps (spF K mg ps.length rs (runB N.length [] thru b)) := by
  refine fnG Fn S (fun vs H Q E h => h.1) fun cdv A outer s H vs Q E room gd ⟨hl, F, G, ds, r, fH, gH, dj, q⟩ => ⟨_, hb cdv A outer s H E room gd, ?_⟩
  have hds : ds.length = ps.length := by rw [← r.length]; exact hl
  refine ⟨F, G, ds.map some ++ List.replicate (N.length - ds.length) none, ⟨⟨[], ?_, fun _ m => by cases m⟩, fH, gH, dj⟩, ?_⟩
  · have o := (OwnL.rds (H := H) r).app (N.length - ds.length)
    rw [List.replicate_append_replicate, show ds.length + (N.length - ds.length) = N.length by omega] at o
    unfold L2.start
    rw [hl, ← hds]
    exact o
  · refine Res.sat_mono (runB_sat q) (fun fl ρ' z => ?_) fun e ρ' z => ?_
    · cases fl with
      | rt d => exact z
      | nx =>
        obtain ⟨ht, z⟩ := z
        cases hrs ht
        exact fun σ' F' H' l S' => z .non F' H' l (Sim.push ⟨⟨[], .nil, fun _ m => by cases m⟩, S'.fH, S'.gH, S'.dj⟩ .non)
      | bk => exact z.elim
      | ct => exact z.elim
    · exact fun σ' F' H' cls dx l S' x => z F' H' cls dx l S'.fH S'.gH S'.dj x
/-- a def whose first argument is a list that it changes for the caller -/
theorem fnP {x qual : Str} {st : Stmt} {fd : FuncData} {rs : Sh} {ω' : Addr → List Sh} {b : M Fl} {p0 : Str} {ps : List Str} (Fn : Fun K x qual st f fd) (S : FnScope N (p0 :: ps) (defScope st))
    (hb : ∀ (cdv : Value) (A : Around) (outer : List Env) (s : Shared) (H : Hp) (E : XK) (a : Addr), Room k (A.deeper (envOfC qual (defScope st) s.heap.objs.size f cdv)) → A.guards = some [] →
      DSs (cxOf (L2.CX P w) P w K mg base N qual (defScope st) f cdv A outer s H E) (sxP N rs a E) (.pin a (.lst .fz) :: List.replicate (N.length - 1) .fz) (defBody st) (ω' a) b)
    (hn : ps.length + 1 ≤ N.length := by decide) :
    FnG P w K mg base (k + 1) f fd (p0 :: ps) (spP K mg ps.length rs (runB N.length [.lst .fz] false b)) := by
  refine fnG Fn S (fun vs H Q E h => h.1) fun cdv A outer s H vs Q E room gd ⟨hl, F, G, a, xs, vs', ds, ds', ev, ha, fa, ga, rx, r, fH, gH, dj, q⟩ => ⟨_, hb cdv A outer s H E a room gd, ?_⟩
  subst ev
  have hl' : vs'.length = ps.length := by simpa using hl
  have hds : ds'.length = ps.length := by rw [← r.length]; exact hl'
  refine ⟨F, G, (.lst ds :: ds').map some ++ List.replicate (N.length - (ds'.length + 1)) none, ⟨⟨[a] ++ [], ?_, fun x m => ?_⟩, fH, gH, dj⟩, ?_⟩
  · have o := (OwnL.rds (H := H) r).app (N.length - (ds'.length + 1))
    rw [List.replicate_append_replicate, show ds'.length + (N.length - (ds'.length + 1)) = N.length - 1 by omega] at o
    unfold L2.start
    rw [hl, ← hds]
    exact OwnL.bd (.pin (.lst ha (Owns.of_rds rx) (fun z => by cases z))) o (fun _ _ z => by cases z)
  · have : x = a := by simpa using m
    subst this; exact ⟨fa, ga⟩
  · refine Res.sat_mono (runB_sat q) (fun fl ρ' z => ?_) fun e ρ' z => ?_
    · cases fl with
      | rt d => exact z
      | nx => exact absurd z.1 Bool.false_ne_true
      | bk => exact z.elim
      | ct => exact z.elim
    · exact fun σ' F' H' cls dx l S' x => z F' H' cls dx l S'.fH S'.gH S'.dj x
end
/-! ### calls -/
section
variable {K : Fg} {ω : List Sh} {F G H : Hp} {ρ : Rho} {σ : L2.St}
/-- all that the caller's names own is put aside -/
theorem Sim.aside (S : Sim K ω F G H ρ σ) : ∃ G', Le G' H ∧ (∀ a, G' a ≠ none → F a = none) ∧
    ∀ {ω' : List Sh} {F' H' : Hp} {ρ' : Rho} {σ' : L2.St}, Le F F' → Sim K ω' F' G' H' ρ' σ' → Sim K (ω' ++ ω) F' G H' (ρ' ++ ρ) (σ' ++ σ) := by
  obtain ⟨⟨fp, o, n⟩, l, g, dj⟩ := S
  have sub : ∀ {a : Addr}, G a ≠ none → withH G H fp a ≠ none := fun {a} q => by
    by_cases m : a ∈ fp
    · exact absurd (n a m).2 q
    · rw [withH_out m]; exact q
  refine ⟨withH G H fp, withH_sub g, fun a q => ?_, fun {ω' F' H' ρ' σ'} lf S' => ?_⟩
  · by_cases m : a ∈ fp
    · exact (n a m).1
    · rw [withH_out m] at q; exact dj a q
  · obtain ⟨⟨fq, o', n'⟩, l', g', dj'⟩ := S'
    have live : ∀ a ∈ fp, withH G H fp a ≠ none := fun a m => by
      obtain ⟨u, e⟩ := o.live a m
      rw [withH_in m, e]; exact fun z => nomatch z
    have o2 : OwnL K F' H' ω σ ρ fp := o.mono lf fun a m u e => g' a u (by rw [withH_in m]; exact e)
    have app : ∀ {ω' : List Sh} {σ' : L2.St} {ρ' : Rho} {fq : List Addr}, OwnL K F' H' ω' σ' ρ' fq → (∀ a ∈ fq, a ∉ fp) → ∃ fr, OwnL K F' H' (ω' ++ ω) (σ' ++ σ) (ρ' ++ ρ) fr ∧ ∀ a, a ∈ fr ↔ a ∈ fq ∨ a ∈ fp := by
      intro ω' σ' ρ' fq o'
      induction o' with
      | nil => intro _; exact ⟨fp, o2, fun a => by simp⟩
      | un _ ih => intro h; obtain ⟨fr, q, m⟩ := ih h; exact ⟨fr, .un q, m⟩
      | @bd _ _ _ _ _ _ f1 f2 w _ nn ih =>
        intro h
        obtain ⟨fr, q, m⟩ := ih fun a z => h a (List.mem_append_right _ z)
        refine ⟨f1 ++ fr, .bd w q fun a z y => ?_, fun a => ?_⟩
        · rcases (m a).mp y with y | y
          · exact nn a z y
          · exact h a (List.mem_append_left _ z) y
        · rw [List.mem_append, List.mem_append, m a]
          constructor
          · rintro (z | z | z)
            · exact .inl (.inl z)
            · exact .inl (.inr z)
            · exact .inr z
          · rintro ((z | z) | z)
            · exact .inl z
            · exact .inr (.inl z)
            · exact .inr (.inr z)
    obtain ⟨fr, q, m⟩ := app o' fun a z y => live a y (n' a z).2
    refine ⟨⟨fr, q, fun a z => ?_⟩, l', fun a u e => ?_, fun a q => dj' a (sub q)⟩
    · rcases (m a).mp z with z | z
      · refine ⟨(n' a z).1, ?_⟩
        cases e : G a with
        | none => rfl
        | some u => exact absurd (n' a z).2 (sub (by rw [e]; exact fun z => nomatch z))
      · exact ⟨dj' a (live a z), (n a z).2⟩
    · refine g' a u ?_
      rw [withH_out fun m => by rw [(n a m).2] at e; cases e]
      exact e
end
def ofRes (r : Res D) : M D := fun ρ => match r with
  | .ok d _ => .ok d ρ
  | .exc e _ => .exc e ρ
  | .no => .no
def callM (np : Nat) (dds : List D) (g : List D → Res D) (ms : M (List D)) : M D := bindM ms fun ds => if (ds ++ dds).length = np then ofRes (g (ds ++ dds)) else failM
section
variable {X : Cx} {W : WX} {ω : List Sh} {k : Nat} {f : Addr} {fd : FuncData} {ps : List Str} {sp : Sp} {x : Str} {p pos : Pos} {e : Expr} {es : List Expr} {ms : M (List D)}
abbrev Lets (X : Cx) (W : WX) : Prop := ∀ σ, PassesAt (L2.CX X.prog X.w) X σ (fun cls d H => W cls d σ H)
/-- the callee runs -/
theorem run_g {pins : List (Addr × Obj)} {σ : L2.St} {H : Hp} {s : Shared} {Q : VK} {us us' : List Value} {kw : List (Str × Value)} {vs : List V} (Fn : FnG X.prog X.w X.K X.mg X.base k f fd ps sp) (hr : Room k X.A) (gd : X.A.guards = some []) (hx : Lets X W)
    (I : Inv X pins σ H s) (b : BindsTo s fd ⟨us, kw⟩ (ps.zip us')) (r : Vals vs us') (h : sp vs H Q fun cls d H => W cls d σ H) : wpAny (model X.prog X.w) X.A (call (.ref f) us kw) (EP X pins σ Q) X.xe s :=
  wpAny_call (codeAny_mono (Fn.run X.A X.stack s H ⟨us, kw⟩ us' vs Q _ hr gd I.env0 b r h) fun r s' hq => by
    cases r with
    | error e => exact hx σ pins H s e s' I hq
    | ok fl => cases fl <;> first | exact I.after hq | exact False.elim hq)
/-- what the call's promise asks, from m -/
theorem tcall {rs : Sh} {g : List D → Res D} {np : Nat} {dvs : List V} {dds : List D} {σ : L2.St} {H : Hp} {Q : VK} (hdd : ∀ F, RDs X.K F dvs dds) (h : tM X.K X.mg W ω rs (callM np dds g ms) σ H Q) :
    tA X.K X.mg W ω ms σ H fun vs H1 => spF X.K X.mg np rs g (vs ++ dvs) H1 Q fun cls d H => W cls d σ H := by
  obtain ⟨F, G, ρ, S, h⟩ := h
  refine ⟨F, G, ρ, S, ?_⟩
  have h := Res.sat_bind h
  cases em : ms ρ with
  | no => rw [em] at h; exact h
  | exc e ρ1 => rw [em] at h; exact h
  | ok ds ρ1 =>
    rw [em] at h
    refine fun vs F1 H1 l S1 rs' => ?_
    obtain ⟨G', gH, dj, back⟩ := S1.aside
    have rr := rs'.append (hdd F1)
    by_cases hnp : (ds ++ dds).length = np
    rotate_left
    · have h : ((if (ds ++ dds).length = np then ofRes (g (ds ++ dds)) else failM : M D) ρ1).sat _ _ := h
      rw [if_neg hnp] at h; exact h.elim
    have h0 : ((if (ds ++ dds).length = np then ofRes (g (ds ++ dds)) else failM : M D) ρ1).sat _ _ := h
    rw [if_pos hnp] at h0
    refine ⟨by rw [rr.length]; exact hnp, F1, G', ds ++ dds, rr, S1.fH, gH, dj, ?_⟩
    have h : (ofRes (g (ds ++ dds)) ρ1).sat _ _ := h0
    unfold ofRes at h
    cases eg : g (ds ++ dds) with
    | no => rw [eg] at h; exact h
    | ok d ρ2 => rw [eg] at h; exact fun v F' H' l' S' => h v F' H' (l.trans l') (back l' S')
    | exc e ρ2 => rw [eg] at h; exact fun F' H' cls dx l' fH' gH' dj' xx => h F' H' cls dx (l.trans l') (back (ω' := []) (ρ' := []) (σ' := []) l' ⟨⟨[], .nil, fun _ m => by cases m⟩, fH', gH', dj'⟩) xx
/-- f(e, ..) -/
theorem de_call {rs : Sh} {g : List D → Res D} {np : Nat} {dvs : List V} {dds : List D} {dus : List Value} (Fn : FnG X.prog X.w X.K X.mg X.base k f fd ps (spF X.K X.mg np rs g)) (hr : Room k X.A) (gd : X.A.guards = some []) (hg : Gl X x) (hm : X.mg x = some (.ref f)) (hk : PySem.W.keepIn X.K (.ref f) = true)
    (hb : Binds X.K fd ps dus) (hd : Vals dvs dus) (hdd : ∀ F, RDs X.K F dvs dds) (hx : Lets X W) (ha : DA X W ω (e :: es) ms) (hps : np = ps.length := by rfl)
    (hdb : (x == ("__debug__" : Str)) = false := by decide) (he : starEach (e :: es) X.env = (false, eval e X.env) :: starEach es X.env := by rfl) (hpl : (backTo pos (starEach es X.env)).any (·.1) = false := by rfl) :
    DE X W ω (.Call (.Name x p) (e :: es) [] pos) rs (callM np dds g ms) := by
  refine ⟨fun pins s σ H Q I h => ?_⟩
  refine wpAny_Call_Name_kw (ld_glob I hg hm ?_ hdb)
  refine PySem.W.callWith_K (h₀ := X.base) I.ok.mod.kin hk (thn (ha.run pos pins s σ H _ I (tcall hdd h)) fun us s1 ⟨vs, H1, I1, r, q⟩ => ⟨I1.kIn, ?_⟩) he hpl
  have rr := r.append hd
  exact run_g Fn hr gd hx I1 (hb s1 us I1.kIn (by rw [← rr.length, ← hps]; exact q.1)) rr q
end
end DL
/-! DL: calls with a list handed over to be changed, with keywords; the law's end. -/
namespace DL
open PySem PySem.Spec PyProof.Rows L2
/-- slot i is handed over, changed, and stands changed -/
def callP (np : Nat) (dds : List D) (g : List D → Res D) (i : Nat) (ms : M (List D)) : M D := bindM (chkM i) fun _ => bindM ms fun ds ρ => match ρ[i]? with
  | some (some (.lst xs)) => if (ds ++ dds).length = np then (match g (.lst xs :: (ds ++ dds)) with
    | .ok d [some y] => .ok d (ρ.set i (some y))
    | _ => .no) else .no
  | _ => .no
section
variable {K : Fg} {ω : List Sh} {F G H : Hp} {ρ : Rho} {σ : L2.St}
/-- all but the list at slot i is put aside -/
theorem Sim.aside1 (S : Sim K ω F G H ρ σ) {i : Nat} {s : Sh} {ds : List D} (h1 : ω[i]? = some s) (hs : coreSh s = .lst .fz) (h2 : ρ[i]? = some (some (.lst ds))) :
    ∃ a xs G', σ[i]? = some (some (.ref a)) ∧ H a = some (.lst xs) ∧ RDs K F xs ds ∧ F a = none ∧ G' a = none ∧ Le G' H ∧ (∀ b, G' b ≠ none → F b = none) ∧
      ∀ {rs : Sh} {F' H' : Hp} {d y : D} {v : V}, Le F F' → Sim K [rs, .pin a (.lst .fz)] F' G' H' [some d, some y] [some v, some (.ref a)] → Sim K (rs :: ω) F' G H' (some d :: ρ.set i (some y)) (some v :: σ) := by
  obtain ⟨⟨fp, o, n⟩, l, g, dj⟩ := S
  obtain ⟨v, fi, fo, e, w, nn, m, back⟩ := o.split h1 h2
  have wc := w.core
  rw [hs] at wc
  cases wc with
  | @lst _ a xs _ fq ha r na =>
    obtain ⟨rs, e0⟩ := r.fz_rds
    subst e0
    have aI : a ∈ fp := (m a).mpr (.inl (List.mem_cons_self))
    have no : ∀ b ∈ fo, F b = none ∧ G b = none := fun b hb => n b ((m b).mpr (.inr hb))
    have sub : ∀ {b : Addr}, G b ≠ none → withH G H fo b ≠ none := fun {b} q => by
      by_cases mm : b ∈ fo
      · exact absurd (no b mm).2 q
      · rw [withH_out mm]; exact q
    have live : ∀ b ∈ fo, withH G H fo b ≠ none := fun b mm => by
      obtain ⟨u, e⟩ := o.live b ((m b).mpr (.inr mm))
      rw [withH_in mm, e]; exact fun z => nomatch z
    refine ⟨a, xs, withH G H fo, e, ha, rs, (n a aI).1, by rw [withH_out (nn a (List.mem_cons_self))]; exact (n a aI).2, withH_sub g, fun b q => ?_, fun {rs' F' H' d y v} lf S' => ?_⟩
    · by_cases mm : b ∈ fo
      · exact (no b mm).1
      · rw [withH_out mm] at q; exact dj b q
    · obtain ⟨⟨fq, o', n'⟩, l', g', dj'⟩ := S'
      cases o' with
      | @bd _ _ _ _ _ _ f1 f2 w1 o2 nn1 =>
        cases o2 with
        | @bd _ _ _ _ _ _ f3 f4 w2 o3 nn2 =>
          cases o3
          rw [List.append_nil] at nn1 n'
          have apart : ∀ b ∈ f1 ++ f3, b ∉ fo := fun b hb z => live b z (n' b hb).2
          have w3 : Own K F' H' s (.ref a) y f3 := w.uncore (by rw [hs]; cases w2 with | pin w2 => exact w2)
          obtain ⟨fp', o', m'⟩ := back F' H' y f3 lf (fun b hb u q => g' b u (by rw [withH_in hb]; exact q)) w3 fun b hb => apart b (List.mem_append_right _ hb)
          refine ⟨⟨f1 ++ fp', .bd w1 o' fun b hb z => ?_, fun b hb => ?_⟩, l', fun b u q => ?_, fun b q => dj' b (sub q)⟩
          · rcases (m' b).mp z with z | z
            · exact nn1 b hb z
            · exact apart b (List.mem_append_left _ hb) z
          · have old : ∀ {b : Addr}, withH G H fo b = none → G b = none := fun {b} z => by
              cases q : G b with
              | none => rfl
              | some u => exact absurd z (sub (by rw [q]; exact fun z => nomatch z))
            rcases List.mem_append.mp hb with z | z
            · exact ⟨(n' b (List.mem_append_left _ z)).1, old (n' b (List.mem_append_left _ z)).2⟩
            · rcases (m' b).mp z with z | z
              · exact ⟨(n' b (List.mem_append_right _ z)).1, old (n' b (List.mem_append_right _ z)).2⟩
              · exact ⟨dj' b (live b z), (no b z).2⟩
          · refine g' b u ?_
            rw [withH_out fun mm => by rw [(no b mm).2] at q; cases q]
            exact q
end
section
variable {X : Cx} {W : WX} {ω : List Sh} {k : Nat} {f : Addr} {fd : FuncData} {ps : List Str} {sp : Sp} {x : Str} {p pos : Pos} {e : Expr} {es : List Expr} {ms : M (List D)}
/-- f(x, e, ..), x the name of a list that is owned -/
theorem de_callP {rs s : Sh} {g : List D → Res D} {np i : Nat} {y : Str} {py : Pos} {dvs : List V} {dds : List D} {dus : List Value} (Fn : FnG X.prog X.w X.K X.mg X.base k f fd ps (spP X.K X.mg np rs g)) (hr : Room k X.A) (gd : X.A.guards = some []) (hg : Gl X x) (hm : X.mg x = some (.ref f)) (hk : PySem.W.keepIn X.K (.ref f) = true)
    (hb : Binds X.K fd ps dus) (hd : Vals dvs dus) (hdd : ∀ F, RDs X.K F dvs dds) (hx : Lets X W) (h1 : ω[i]? = some s) (hs : coreSh s = .lst .fz) (hv : PE X (.Name y py) (tVar i)) (ha : DA X W ω es ms) (hps : np + 1 = ps.length := by rfl)
    (hdb : (x == ("__debug__" : Str)) = false := by decide) (hst : starEach (.Name y py :: es) X.env = (false, eval (.Name y py) X.env) :: starEach es X.env := by rfl) (hpl : (backTo pos (starEach es X.env)).any (·.1) = false := by rfl) :
    DE X W ω (.Call (.Name x p) (.Name y py :: es) [] pos) rs (callP np dds g i ms) := by
  refine ⟨fun pins s' σ H Q I h => ?_⟩
  refine wpAny_Call_Name_kw (ld_glob I hg hm ?_ hdb)
  have hA : PA X (.Name y py :: es) (tCons (tVar i) (tA X.K X.mg W ω ms)) := pa_cons hv ha hst
  have want : tCons (tVar i) (tA X.K X.mg W ω ms) σ H fun vs H1 => spP X.K X.mg np rs g (vs ++ dvs) H1 Q fun cls d H => W cls d σ H := by
    obtain ⟨F, G, ρ, S, q⟩ := h
    obtain ⟨ds0, e0, q⟩ := chkM_ok (Res.sat_bind q)
    obtain ⟨a, xs, ea, _⟩ := S.lst h1 hs e0
    refine ⟨_, ea, F, G, ρ, S, Res.sat_mono (Res.sat_bind q) (fun ds ρ1 q1 vs F1 H1 l S1 rv => ?_) fun _ _ z => z⟩
    split at q1
    · rename_i ds1 e1
      split at q1
      · rename_i hnp
        obtain ⟨a', xs', G', ea', ha, rx, fa, ga, gH, dj, back⟩ := S1.aside1 h1 hs e1
        rw [ea] at ea'
        cases ea'
        have rr := rv.append (hdd F1)
        have hl : (vs ++ dvs).length = np := by rw [rr.length]; exact hnp
        refine ⟨by show (vs ++ dvs).length + 1 = np + 1; rw [hl], F1, G', a, xs', vs ++ dvs, ds1, ds ++ dds, rfl, ha, fa, ga, rx, rr, S1.fH, gH, dj, ?_⟩
        split at q1
        · rename_i d y eg
          rw [eg]
          exact fun v F' H' l' S' => q1 v F' H' (l.trans l') (back l' S')
        · exact q1.elim
      · exact q1.elim
    · exact q1.elim
  refine PySem.W.callWith_K (h₀ := X.base) I.ok.mod.kin hk (thn (hA.run pos pins s' σ H _ I want) fun us s1 ⟨vs, H1, I1, r, q⟩ => ⟨I1.kIn, ?_⟩) hst hpl
  have rr := r.append hd
  exact run_g Fn hr gd hx I1 (hb s1 us I1.kIn (by rw [← rr.length, ← hps]; exact q.1)) rr q
/-! ### keywords -/
abbrev DK (X : Cx) (W : WX) (ω : List Sh) (kws : List Keyword) (m : M (List D)) : Prop := PK X kws (tA X.K X.mg W ω m)
theorem PK.imp {es : List Keyword} {t t' : TA} (h : PK X es t) (k : ∀ σ H Q, t' σ H Q → t σ H Q) : PK X es t' := ⟨fun pos pins s σ H Q I q => h.run pos pins s σ H Q I (k σ H Q q)⟩
theorem dk_nil : DK X W ω [] nilM := PK.imp pk_nil fun σ H Q ⟨F, G, ρ, S, q⟩ => q [] F H (Le.refl _) S .nil
theorem dk_cons {m : M D} {nm : Option Str} {kpos : Pos} {kws : List Keyword} (h : DE X W ω e .fz m) (hs : DK X W ω kws ms) : DK X W ω (⟨nm, e, kpos⟩ :: kws) (consM m ms) :=
  PK.imp (pk_cons h hs) fun σ H Q q => by
    obtain ⟨F, q⟩ := tA_cons q
    refine ⟨F, tMF_mono q fun x H1 ⟨d, F1, r, G, ρ, S, q1⟩ => ⟨F1, G, ρ, S, ?_⟩⟩
    refine Res.sat_mono (Res.sat_bind q1) (fun ds ρ1 p vs F2 H2 l S2 rs => ?_) fun _ _ z => z
    exact p (x :: vs) F2 H2 l S2 (.cons (r.mono l) rs)
/-- how the keywords' values come into the parameters' order: by places -/
def byIx {α : Type} (ix : List Nat) (xs : List α) : List α := ix.filterMap fun i => xs[i]?
theorem RDs.byIx {K : Fg} {F : Hp} {vs : List V} {ds : List D} (h : RDs K F vs ds) : ∀ ix : List Nat, RDs K F (DL.byIx ix vs) (DL.byIx ix ds)
  | [] => .nil
  | i :: ix => by
    unfold DL.byIx
    rw [List.filterMap_cons, List.filterMap_cons]
    have t := RDs.byIx h ix
    cases e : ds[i]? with
    | none =>
      have : vs[i]? = none := by rw [List.getElem?_eq_none_iff] at e ⊢; rw [h.length]; exact e
      rw [this]; exact t
    | some d =>
      obtain ⟨v, ev, r⟩ := h.get e
      rw [ev]; exact .cons r t
theorem Vals.byIx {xs : List V} {us : List Value} (h : Vals xs us) : ∀ ix : List Nat, Vals (DL.byIx ix xs) (DL.byIx ix us)
  | [] => .nil
  | i :: ix => by
    unfold DL.byIx
    rw [List.filterMap_cons, List.filterMap_cons]
    have t := Vals.byIx h ix
    cases e : xs[i]? with
    | none => rw [h.none_of e]; exact t
    | some d =>
      obtain ⟨v, ev, r⟩ := h.get e
      rw [ev]; exact .cons r t
/-- the places are a rearrangement; all by keywords -/
theorem de_callK {rs : Sh} {g : List D → Res D} {np : Nat} {ix : List Nat} {ks : List Str} {kws : List Keyword} (Fn : FnG X.prog X.w X.K X.mg X.base k f fd ps (spF X.K X.mg np rs g)) (hr : Room k X.A) (gd : X.A.guards = some []) (hg : Gl X x) (hm : X.mg x = some (.ref f)) (hk : PySem.W.keepIn X.K (.ref f) = true)
    (hb : ∀ (s : Shared) (ws : List Value), X.K.In s.heap → ws.length = ks.length → BindsTo s fd ⟨[], ks.zip ws⟩ (ps.zip (byIx ix ws))) (hx : Lets X W) (ha : DK X W ω kws ms) (hnk : ks.length = np)
    (hks : (backToKw pos (keywordEach kws X.env)).filterMap (·.1) = ks := by rfl) (hall : (backToKw pos (keywordEach kws X.env)).all (·.1.isSome) = true := by rfl)
    (hix : ∀ xs : List V, xs.length = np → (byIx ix xs).length = np)
    (hdb : (x == ("__debug__" : Str)) = false := by decide) (hpl : ((backTo pos (starEach [] X.env)).any (·.1) || (backToKw pos (keywordEach kws X.env)).any (·.1.isNone)) = false := by rfl) :
    DE X W ω (.Call (.Name x p) [] kws pos) rs (callM np [] (fun ds => g (byIx ix ds)) ms) := by
  refine ⟨fun pins s σ H Q I h => ?_⟩
  refine wpAny_Call_Name_kw (ld_glob I hg hm ?_ hdb)
  have want : tA X.K X.mg W ω ms σ H fun vs H1 => vs.length = np ∧ spF X.K X.mg np rs g (byIx ix vs) H1 Q fun cls d H => W cls d σ H := by
    have q := tcall (dvs := []) (fun _ => .nil) h
    obtain ⟨F, G, ρ, S, q⟩ := q
    refine ⟨F, G, ρ, S, Res.sat_mono q (fun ds ρ1 p vs F1 H1 l S1 rv => ?_) fun _ _ z => z⟩
    obtain ⟨hl, F2, G2, ds2, r2, a, b, c, z⟩ := p vs F1 H1 l S1 rv
    rw [List.append_nil] at hl r2
    exact ⟨hl, hix vs hl, F2, G2, byIx ix ds2, r2.byIx ix, a, b, c, z⟩
  refine PySem.W.callWith_KW0 (h₀ := X.base) I.ok.mod.kin hk hall (thn (ha.run pos pins s σ H _ I want) fun ws s1 ⟨zs, H1, I1, rz, hl, q⟩ => ⟨I1.kIn, ?_⟩) hpl
  rw [hks]
  exact run_g Fn hr gd hx I1 (hb s1 ws I1.kIn (by rw [← rz.length, hl, hnk])) (Vals.byIx rz ix) q
end
/-! ### the law's end -/
section
variable {P : Program} {w : World} {K : Fg} {mg mb : Str → Option Value} {k : Nat} {fa a : Addr} {fd : FuncData} {x : Str} {f : List D → Res D}
/-- the law, called with the script behind the top -/
theorem law_run {s₁ : Shared} {vs : List Value} {ns : List Int} (KX : K.In s₁.heap) (hns : s₁.heap.Ns mainGlobals mg) (hb : s₁.heap.Ns builtinsNs mb) (hbb : ∀ x : Str, x ≠ "__name__" → mb x = bootBuiltins x) (hlim : s₁.heap.NoLimit) (hg : s₁.gens = #[])
    (ha : s₁.heap.get? a = some { cls := .type "list", data := .seq vs.toArray }) (hi : IntsAre vs ns) (hl : ns.length ≤ sizeLine) (hr : Room k callerA)
    (Fn : ∀ base : Heap, K.In base → base.Ns mainGlobals mg → FnG P w K mg base k fa fd [x] (spF K mg 1 .fz f)) (bind : ∀ (s : Shared) (u : Value), BindsTo s fd ⟨[u], []⟩ [(x, u)])
    (hf : ∃ ρ, f [.scr (ns.map D.int)] = .ok (.bl true) ρ) :
    codeAny (model P w) callerA (.call (.ref fa) ⟨[.ref a], []⟩) (fun r s' => r = .ok (.ret (.bool true)) ∧ OldK s₁.heap s'.heap ∧ s'.os = s₁.os ∧ AllBare s'.gens) s₁ := by
  have rv := vals_ints hi
  -- the script alone is tracked, locked, unless it is the module's own
  let H : Hp := fun b => if b = a ∧ K.lookup a = none then some (.frz { cls := .type "list", data := .seq vs.toArray } (.lst (ns.map V.int))) else none
  have Hs : ∀ {b : Addr} {u : HO}, H b = some u → b = a ∧ K.lookup a = none ∧ u = .frz { cls := .type "list", data := .seq vs.toArray } (.lst (ns.map V.int)) := fun {b u} e => by
    by_cases h : b = a ∧ K.lookup a = none
    · exact ⟨h.1, h.2, (Option.some.inj ((if_pos h).symm.trans e)).symm⟩
    · exact absurd ((if_neg h).symm.trans e) (fun z => nomatch z)
  have hok : HOk P w H s₁.heap := fun b u e => by
    obtain ⟨rfl, _, rfl⟩ := Hs e
    exact ⟨ha, by rw [List.length_map]; exact hl, vs, _, rv, ha⟩
  have seq : SqL K H a (ns.map V.int) := by
    cases q : K.lookup a with
    | none => exact .inl (.inr ⟨_, if_pos ⟨rfl, q⟩⟩)
    | some o =>
      have e := (KX a o q).symm.trans ha
      cases e
      exact .inr ⟨_, vs.toArray, _, q, rfl, rfl, rfl, by rw [List.size_toArray, hi.length]; exact hl, by simpa using rv⟩
  have out : ∀ {b : Addr} {o : Obj}, s₁.heap.get? b = some o → (b = a → K.lookup a ≠ none) → (hidT s₁.heap H).get? b = some o := fun {b o} e n => hidT_get e (by
    cases q : H b with
    | none => rfl
    | some u => exact absurd (Hs q).2.1 (n (Hs q).1))
  have ns_ : ∀ {b : Addr} {m : Str → Option Value}, s₁.heap.Ns b m → (hidT s₁.heap H).Ns b m := fun {b m} ⟨o, es, ep, e, d, r⟩ => ⟨o, es, ep, out e (fun z => by
    subst z
    rw [ha] at e
    cases e
    exact nomatch (show Data.seq vs.toArray _ = Data.dict es ep from d)), d, r⟩
  have inK : K.In (hidT s₁.heap H) := fun b o e => out (KX b o e) fun z => by rw [← z, e]; exact fun z => nomatch z
  have en : Env0 P w K mg (hidT s₁.heap H) callerA [] s₁ H :=
    ⟨rfl, ⟨inK, ns_ hns, ⟨mb, ns_ hb, hbb⟩, hlim.elim fun mc z => ⟨mc, ns_ z.1, z.2⟩⟩, fun b o e => of_hidT e, Nat.le_of_eq (hidT_size _ _), trivial, fun b z => absurd (show b ∈ ([] : List Addr) from z) (by simp), hok, .of_eq hg⟩
  have rds : ∀ ns : List Int, RDs K H (ns.map V.int) (ns.map D.int) := fun ns => by
    induction ns with
    | nil => exact .nil
    | cons n ns ih => exact .cons (.int n) ih
  obtain ⟨ρ, ef⟩ := hf
  have want : spF K mg 1 .fz f [.ref a] H (fun v _ => v = .bl true) fun _ _ _ => False :=
    ⟨rfl, H, fun _ => none, [.scr (ns.map D.int)], .cons (.scr seq (rds ns)) .nil, Le.refl _, (fun b u z => by cases z), fun b z => absurd rfl z, by
      rw [ef]
      exact fun v F' H' l S' => by
        obtain ⟨r, _⟩ := S'.top
        cases r
        rfl⟩
  refine codeAny_mono ((Fn _ inK (ns_ hns)).run callerA [] s₁ H ⟨[.ref a], []⟩ [.ref a] [.ref a] _ _ hr rfl en (bind s₁ (.ref a)) (.cons rfl .nil) want) fun r s' h => ?_
  cases r with
  | error e =>
    obtain ⟨_, _, _, _, _, _, _, _, _, _, _, _, z⟩ := h
    exact z.elim
  | ok fl =>
    cases fl with
    | next => exact False.elim h
    | brk => exact False.elim h
    | cont => exact False.elim h
    | ret u =>
      obtain ⟨v, H', os, bare, un, hok', r', q⟩ := h
      cases (show v = .bl true from q)
      obtain rfl : u = Value.bool true := r'
      refine ⟨rfl, OldK.of_keep fun b o e => ?_, os, bare⟩
      cases q : H b with
      | none => exact un.keep b o e q (fun z => absurd (show b ∈ ([] : List Addr) from z) (by simp)) (by simp)
      | some u =>
        obtain ⟨rfl, _, rfl⟩ := Hs q
        obtain ⟨e2, _⟩ := hok' b _ (un.frzs b _ _ q)
        rw [ha] at e
        cases e
        exact e2
end
/-- the goal that the head leaves, from the law's worth -/
theorem walk_law {l : PySem.W.OpenLaw} {n k : Nat} {q : Program} {loose : List Str} {XP : (Str → Option Value) → Heap → Prop} {YP : World → Heap → Prop} {d : DefRec} {K : Params → Fg} {x : Str} {f : List D → Res D}
    (hn : l.most = some n) (hn2 : n ≤ sizeLine) (hdf : d.params.defaults = []) (hr : Room k callerA) (hY : ∀ (w : World) (h : Heap), YP w h → (K w.params).In h)
    (Fn : ∀ (w : World) (mg : Str → Option Value) (fa : Addr) (h : Heap), (K w.params).In h → h.Ns mainGlobals mg → mg d.name = some (.ref fa) →
      ∃ fd : FuncData, (∀ (s : Shared) (u : Value), BindsTo s fd ⟨[u], []⟩ [(x, u)]) ∧ ∀ base : Heap, (K w.params).In base → base.Ns mainGlobals mg → FnG l.prog w (K w.params) mg base k fa fd [x] (spF (K w.params) mg 1 .fz f))
    (hf : ∀ ns : List Int, ns.length ≤ n → ∃ ρ, f [.scr (ns.map D.int)] = .ok (.bl true) ρ) : PySem.W.WalkO q loose XP YP l.row.toRowW d [] (fun f vs => PySem.call f vs) := by
  refine Att.attach_call hn hdf fun w s₀ s₁ mg mb fa o pm cd doc a vs ns G Y ho hd hcd hmg hobj hints hlen hg => ?_
  have KX := hY w _ Y
  obtain ⟨fd, hb, hF⟩ := Fn w mg fa _ KX G.T.g hmg
  exact law_run KX G.T.g G.T.b G.T.builtins G.T.nolimit hg hobj hints (Nat.le_trans hlen hn2) hr hF hb (hf ns hlen)
end DL
/-! DL: built-ins. -/
namespace DL
open PySem PySem.Spec PyProof.Rows L2
section
variable {X : Cx} {W : WX} {C : Sx} {ω : List Sh} {pos : Pos} {a b c e : Expr} {m m1 m2 m3 : M D} {sh : Sh}
theorem CallR.imp {f : Value} {r r' : List V → Hp → VK → Prop} (h : CallR X f r) (k : ∀ x H Q, r' x H Q → r x H Q) : CallR X f r' := fun pins s σ H xs us Q I rv q => h pins s σ H xs us Q I rv (k xs H Q q)
/-! ### int, bool, abs, len -/
def gIntC : List D → Option D
  | [.int i] => some (.int i)
  | [.bl b] => some (.int (if b then 1 else 0))
  | _ => none
theorem cd_int : CallD X (.type "int") gIntC := fun F ds r e => by
  unfold gIntC at e
  split at e
  · cases e
    refine CallR.imp call_int1 fun xs H Q ⟨l, rs, q⟩ => ?_
    cases rs with | cons r rs => cases rs; cases r; exact .inl ⟨_, rfl, q _ F H (Gr.refl l) (.int _)⟩
  · cases e
    refine CallR.imp call_int1 fun xs H Q ⟨l, rs, q⟩ => ?_
    cases rs with | cons r rs => cases rs; cases r; exact .inr ⟨_, rfl, q _ F H (Gr.refl l) (.int _)⟩
  · cases e
def gAbs : List D → Option D
  | [.int i] => some (.int (if i < 0 then -i else i))
  | _ => none
theorem cd_abs : CallD X (.builtin "abs") gAbs := fun F ds r e => by
  unfold gAbs at e
  split at e
  · cases e
    refine CallR.imp call_abs fun xs H Q ⟨l, rs, q⟩ => ?_
    cases rs with | cons r rs => cases rs; cases r; exact ⟨_, rfl, q _ F H (Gr.refl l) (.int _)⟩
  · cases e
def gLen : List D → Option D
  | [.lst xs] => some (.int xs.length)
  | [.tup xs] => some (.int xs.length)
  | [.scr xs] => some (.int xs.length)
  | [.str z] => if z.length ≤ sizeLine then some (.int z.length) else none
  | _ => none
theorem cd_len : CallD X (.builtin "len") gLen := fun F ds r e => by
  unfold gLen at e
  split at e
  · cases e
    refine CallR.imp call_len_seq fun xs H Q ⟨l, rs, q⟩ => ?_
    cases rs with | cons r rs => cases rs; cases r with | lst h s => exact ⟨_, _, rfl, .inl (SqL.of (l _ _ h)), by rw [s.length]; exact q _ F H (Gr.refl l) (.int _)⟩
  · cases e
    refine CallR.imp call_len_seq fun xs H Q ⟨l, rs, q⟩ => ?_
    cases rs with | cons r rs => cases rs; cases r with | tup h s => exact ⟨_, _, rfl, .inr (SqT.mono l h), by rw [s.length]; exact q _ F H (Gr.refl l) (.int _)⟩
  · cases e
    refine CallR.imp call_len_seq fun xs H Q ⟨l, rs, q⟩ => ?_
    cases rs with | cons r rs => cases rs; cases r with | scr h s => exact ⟨_, _, rfl, .inl (SqL.mono l h), by rw [s.length]; exact q _ F H (Gr.refl l) (.int _)⟩
  · split at e
    · rename_i hz
      cases e
      refine CallR.imp call_len_str fun xs H Q ⟨l, rs, q⟩ => ?_
      cases rs with | cons r rs => cases rs; cases r; exact ⟨_, rfl, hz, q _ F H (Gr.refl l) (.int _)⟩
    · cases e
  · cases e
/-! ### all, any of truth values -/
def blsD : List D → Option (List Bool)
  | [] => some []
  | .bl b :: ds => (blsD ds).map (b :: ·)
  | _ => none
theorem blsD.ok {K : Fg} {F : Hp} : ∀ {ds : List D} {vs : List V} {bs : List Bool}, RDs K F vs ds → blsD ds = some bs → vs = bs.map V.bl
  | [], _, _, .nil, e => by cases e; rfl
  | .bl b :: ds, _, bs, .cons r rs, e => by
    cases r
    unfold blsD at e
    obtain ⟨bs', e1, rfl⟩ := Option.map_eq_some_iff.mp e
    rw [blsD.ok rs e1]; rfl
  | .non :: _, _, _, _, e => by cases e
  | .int _ :: _, _, _, _, e => by cases e
  | .str _ :: _, _, _, _, e => by cases e
  | .ty _ :: _, _, _, _, e => by cases e
  | .fn _ :: _, _, _, _, e => by cases e
  | .tup _ :: _, _, _, _, e => by cases e
  | .lst _ :: _, _, _, _, e => by cases e
  | .scr _ :: _, _, _, _, e => by cases e
  | .dK _ :: _, _, _, _, e => by cases e
  | .dT _ :: _, _, _, _, e => by cases e
  | .ins _ _ :: _, _, _, _, e => by cases e
def gAll : List D → Option D
  | [.lst ds] => (blsD ds).map fun bs => .bl (bs.all id)
  | _ => none
def gAny : List D → Option D
  | [.lst ds] => (blsD ds).map fun bs => .bl (bs.any id)
  | _ => none
theorem cd_all (hc : X.calm = true) : CallD X (.builtin "all") gAll := fun F ds r e => by
  unfold gAll at e
  split at e
  · obtain ⟨bs, e1, rfl⟩ := Option.map_eq_some_iff.mp e
    refine CallR.imp (cr_all hc) fun xs H Q ⟨l, rs, q⟩ => ?_
    cases rs with | cons r rs => cases rs; cases r with | lst h s => exact ⟨_, bs, rfl, SqL.of (by rw [← blsD.ok s e1]; exact l _ _ h), q _ F H (Gr.refl l) (.bl _)⟩
  · cases e
theorem cd_any (hc : X.calm = true) : CallD X (.builtin "any") gAny := fun F ds r e => by
  unfold gAny at e
  split at e
  · obtain ⟨bs, e1, rfl⟩ := Option.map_eq_some_iff.mp e
    refine CallR.imp (cr_any hc) fun xs H Q ⟨l, rs, q⟩ => ?_
    cases rs with | cons r rs => cases rs; cases r with | lst h s => exact ⟨_, bs, rfl, SqL.of (by rw [← blsD.ok s e1]; exact l _ _ h), q _ F H (Gr.refl l) (.bl _)⟩
  · cases e
/-! ### repr -/
def showD (d : D) : Bool := plainD d && (toP d).showable && decide ((toP d).depth ≤ 64) && decide ((toP d).shown.length ≤ sizeLine)
def gRepr : List D → Option D
  | [d] => if showD d then some (.str (toP d).shown) else none
  | _ => none
theorem noDict (d : D) : (toP d).hasDict = false := by
  have key : (∀ d : D, (toP d).hasDict = false) ∧ True := ⟨?_, trivial⟩
  · exact key.1 d
  intro d
  exact (D.rec (motive_1 := fun d => (toP d).hasDict = false) (motive_2 := fun ds => PyData.hasDictAll (toPs ds) = false) (motive_3 := fun _ => True) (motive_4 := fun _ => True) (motive_5 := fun _ => True) (motive_6 := fun _ => True) (motive_7 := fun _ => True) (motive_8 := fun _ => True)
    (by simp [toP, PyData.hasDict]) (fun _ => by simp [toP, PyData.hasDict]) (fun _ => by simp [toP, PyData.hasDict]) (fun _ => by simp [toP, PyData.hasDict]) (fun _ => by simp [toP, PyData.hasDict]) (fun _ => by simp [toP, PyData.hasDict])
    (fun xs ih => by simpa [toP, PyData.hasDict] using ih) (fun xs ih => by simpa [toP, PyData.hasDict] using ih) (fun xs _ => by simp [toP, PyData.hasDict]) (fun _ _ => by simp [toP, PyData.hasDict]) (fun _ _ => by simp [toP, PyData.hasDict]) (fun _ _ _ => by simp [toP, PyData.hasDict])
    (by simp [toPs, PyData.hasDictAll]) (fun d ds h1 h2 => by simp [toPs, PyData.hasDictAll, h1, h2]) trivial (fun _ _ _ _ => trivial) trivial (fun _ _ _ _ => trivial) trivial (fun _ _ _ _ => trivial) (fun _ _ _ => trivial) (fun _ _ _ => trivial) (fun _ _ _ => trivial) d)
theorem cd_repr (gd : X.A.guards = some []) (hu : X.A.units + 80 < cLine) : CallD X (.builtin "repr") gRepr := fun F ds r e => by
  unfold gRepr at e
  split at e
  · rename_i d
    split at e
    · rename_i hs
      cases e
      unfold showD at hs
      simp only [Bool.and_eq_true, decide_eq_true_eq] at hs
      obtain ⟨⟨⟨hp, hsh⟩, hd⟩, hz⟩ := hs
      intro pins s σ H xs us Q I rv ⟨l, rs, q⟩
      cases rs with
      | cons r0 rs =>
        cases rs
        obtain ⟨u, rfl, ru⟩ := vals1 rv
        have fin : ∀ h' u' tk, (∀ b o, s.heap.get? b = some o → h'.get? b = some o) → EP X pins σ Q (.str (toP d).shown u') { s with heap := h', toks := tk } := fun h' u' tk hk =>
          ⟨.str (toP d).shown, H, I.kept (t' := tk) hk, ⟨u', rfl⟩, q _ F H (Gr.refl l) (.str _)⟩
        obtain ⟨as, hr⟩ := Dp.reads I (toP d) _ u ((r0.mono l).dp hp) ru
        cases r0 with
        | non => cases ru; exact P.repr_of_none ⟨.str _, H, I.tok _, ⟨_, rfl⟩, q _ F H (Gr.refl l) (.str _)⟩
        | bl b => cases ru; exact P.repr_of_bool ⟨.str _, H, I.tok _, ⟨_, rfl⟩, q _ F H (Gr.refl l) (.str _)⟩
        | int i =>
          obtain ⟨t, rfl⟩ := ru
          exact P.repr_of_int (of_decide_eq_true hsh) ⟨.str _, H, I.tok _, ⟨_, rfl⟩, q _ F H (Gr.refl l) (.str _)⟩
        | str x =>
          obtain ⟨t, rfl⟩ := ru
          exact P.repr_of_str (hsz := hz) ⟨.str _, H, I.tok _, ⟨_, rfl⟩, q _ F H (Gr.refl l) (.str _)⟩
        | tup h s' =>
          cases ru
          exact repr_of_reads' hr hsh (PyData.noDict_hsm (noDict _)) gd (by omega) (fun _ _ e => e) fin hz
        | lst h s' =>
          cases ru
          exact repr_of_reads' hr hsh (PyData.noDict_hsm (noDict _)) gd (by omega) (fun _ _ e => e) fin hz
        | _ => cases hp
    · cases e
  · cases e
end
end DL
/-! DL: slices, chains of comparisons, isinstance, in, index, list(), tuple(). -/
namespace DL
open PySem PySem.Spec PyProof.Rows L2
section
variable {X : Cx} {W : WX} {C : Sx} {ω : List Sh} {pos : Pos} {a b c e : Expr} {m m1 m2 m3 : M D} {sh : Sh}
/-! ### slices: bounds that are ints or left out -/
abbrev MO := M (Option Int)
def tOF (K : Fg) (mg : Str → Option Value) (W : WX) (ω : List Sh) (m : MO) : TO := fun σ H Q => ∃ F G ρ, Sim K ω F G H ρ σ ∧ (m ρ).sat (fun o ρ' => ∀ F' H', Le F F' → Sim K ω F' G H' ρ' σ → Q o H') (Zx K mg W ω F G σ)
abbrev DO (X : Cx) (W : WX) (ω : List Sh) (e : Option Expr) (m : MO) : Prop := PO X e (tOF X.K X.mg W ω m)
theorem PO.imp {e : Option Expr} {t t' : TO} (h : PO X e t) (k : ∀ σ H Q, t' σ H Q → t σ H Q) : PO X e t' := ⟨fun pins s σ H Q I q => h.run pins s σ H Q I (k σ H Q q)⟩
def noO : MO := pureM none
def intD : D → Option (Option Int)
  | .int i => some (some i)
  | _ => none
def someO (m : M D) : MO := bindM m fun d => liftO (intD d)
theorem do_none : DO X W ω none noO := PO.imp po_none fun σ H Q ⟨F, G, ρ, S, q⟩ => q F H (Le.refl _) S
theorem do_some (h : DE X W ω e .fz m) : DO X W ω (some e) (someO m) := PO.imp (po_some h) fun σ H Q ⟨F, G, ρ, S, q⟩ => by
  refine ⟨F, G, ρ, S, Res.sat_mono (Res.sat_bind q) (fun d ρ1 p v F1 H1 l S1 => ?_) fun _ _ z => z⟩
  obtain ⟨r, S2⟩ := S1.top
  unfold intD at p
  split at p
  · cases r; exact ⟨_, rfl, p F1 H1 l S2⟩
  · exact p.elim
def cutD (xs : List D) (lo hi : Option Int) : List D := (xs.drop (HT.sIx xs.length 0 lo)).take (HT.sIx xs.length xs.length hi - HT.sIx xs.length 0 lo)
theorem RDs.cut {K : Fg} {F : Hp} {vs : List V} {ds : List D} (h : RDs K F vs ds) (lo hi : Option Int) : RDs K F (cutV vs lo hi) (cutD ds lo hi) := by
  unfold cutV cutD
  rw [h.length]
  exact (h.drop _).take _
def slcD (d : D) (lo hi : Option Int) : Option D := match d with
  | .lst xs => some (.lst (cutD xs lo hi))
  | .scr xs => some (.lst (cutD xs lo hi))
  | .tup xs => some (.tup (cutD xs lo hi))
  | .str z => if z.length ≤ sizeLine then some (.str (cutS z lo hi)) else none
  | _ => none
def slcM (m : M D) (lo hi : MO) : M D := bindM m fun d => bindM lo fun l => bindM hi fun h => liftO (slcD d l h)
theorem cutD_all (xs : List D) (lo hi : Option Int) (h : HT.sIx xs.length 0 lo = 0 ∧ HT.sIx xs.length xs.length hi = xs.length) : cutD xs lo hi = xs := by
  unfold cutD
  rw [h.1, h.2]
  simp
theorem de_slice {p2 : Pos} {lo hi : Option Expr} {ml mh : MO} (ha : DE X W ω a .fz m) (hl : DO X W ω lo ml) (hh : DO X W ω hi mh) : DE X W ω (.Subscript a (.Slice lo hi none p2) pos) .fz (slcM m ml mh) :=
  PE.imp (pe_slice (sl_list.or (sl_tupA.or sl_str)) ha hl hh) fun σ H Q ⟨F, G, ρ, S, q⟩ => by
    refine ⟨F, G, ρ, S, Res.sat_mono (Res.sat_bind q) (fun d ρ1 q1 v F1 H1 l1 S1 => ?_) fun _ _ z => z⟩
    obtain ⟨r, S2⟩ := S1.top
    refine ⟨F1, G, ρ1, S2, Res.sat_mono (Res.sat_bind q1) (fun o ρ2 q2 F2 H2 l2 S3 => ?_) fun _ _ z => z.le l1⟩
    refine ⟨F2, G, ρ2, S3, Res.sat_mono (Res.sat_bind q2) (fun o2 ρ3 q3 F3 H3 l3 S4 => ?_) fun _ _ z => z.le (l1.trans l2)⟩
    have r3 := r.mono (l2.trans l3)
    have l13 := l1.trans (l2.trans l3)
    have fin : ∀ {dd : D} {z : V} {F' H' : Hp}, slcD d o o2 = some dd → Gr F3 H3 F' H' → RD X.K F' z dd → Q z H' := fun {dd z F' H'} e g rz => by
      have q3 : (liftO (slcD d o o2) ρ3).sat _ _ := q3
      rw [e] at q3
      exact q3 z F' H' (l13.trans g.lf) ((S4.gr g).push rz)
    have q3 : (liftO (slcD d o o2) ρ3).sat _ _ := q3
    cases ed : slcD d o o2 with
    | none => rw [ed] at q3; exact q3.elim
    | some dd =>
      clear q3
      cases r3 with
      | lst h s =>
        cases ed
        refine .inl ⟨_, _, rfl, SqL.of (S4.fH _ _ h), fun p np => fin rfl (Gr.one S4.fH np) (.lst upd_same ((s.cut o o2).mono (Le.upd (S4.fH.none np))))⟩
      | scr h s =>
        cases ed
        refine .inl ⟨_, _, rfl, SqL.mono S4.fH h, fun p np => fin rfl (Gr.one S4.fH np) (.lst upd_same ((s.cut o o2).mono (Le.upd (S4.fH.none np))))⟩
      | tup h s =>
        cases ed
        refine .inr (.inl ⟨_, _, rfl, SqT.mono S4.fH h, fun e => fin rfl (Gr.refl S4.fH) ?_, fun _ p np => fin rfl (Gr.one S4.fH np) (.tup (SqT.of upd_same) ((s.cut o o2).mono (Le.upd (S4.fH.none np))))⟩)
        rw [s.length] at e
        rw [cutD_all _ _ _ e]
        exact .tup h s
      | str z =>
        have ed : (if z.length ≤ sizeLine then some (D.str (cutS z o o2)) else none) = some dd := ed
        by_cases hz : z.length ≤ sizeLine
        · rw [if_pos hz] at ed
          cases ed
          exact .inr (.inr ⟨_, rfl, hz, fin (by show (if z.length ≤ sizeLine then some (D.str (cutS z o o2)) else none) = _; rw [if_pos hz]) (Gr.refl S4.fH) (.str _)⟩)
        · rw [if_neg hz] at ed; cases ed
      | _ => cases ed
/-! ### a op b op' c -/
def chainM (g g' : D → D → Option D) (m1 m2 m3 : M D) : M D := bindM m1 fun x => bindM m2 fun y => bindM (liftO (g x y)) fun t => match t with
  | .bl true => bindM m3 fun z => liftO (g' y z)
  | .bl false => pureM (.bl false)
  | _ => failM
theorem tMF_liftD {F : Hp} {o : Option D} {k : D → M D} {σ : L2.St} {H : Hp} {Q : VK} (h : tMF X.K X.mg W ω sh F (bindM (liftO o) k) σ H Q) : Le F H ∧ ∃ d, o = some d ∧ tMF X.K X.mg W ω sh F (k d) σ H Q := by
  obtain ⟨G, ρ, S, h⟩ := h
  cases o with
  | none => exact h.elim
  | some d => exact ⟨S.fH, d, rfl, G, ρ, S, h⟩
/-- chains of whole numbers' comparisons -/
theorem de_chain {op op' : CmpOp} {p p' : Int → Int → Bool} (ho : OpR X (compareOp op) (rI0 fun i j => .bl (p i j))) (ho' : OpR X (compareOp op') (rI0 fun i j => .bl (p' i j))) (ha : DE X W ω a .fz m1) (hb : DE X W ω b .fz m2) (hc : DE X W ω c .fz m3)
    (hm : lastMarks [op, op'] [b, c] = false := by with_unfolding_all rfl) : DE X W ω (.Compare a [op, op'] [b, c] pos) .fz (chainM (gInt p) (gInt p') m1 m2 m3) :=
  PE.imp (pe_chain ho ho' ha hb hc hm) fun σ H Q q => by
    obtain ⟨F, q⟩ := tM_bind q
    refine ⟨F, tMF_mono q fun x H1 ⟨d1, F1, r1, q1⟩ => ⟨F1, tMF_mono (tMF_bind q1) fun y H2 ⟨d2, F2, l2, r2, q2⟩ => ?_⟩⟩
    obtain ⟨l, t, e, q3⟩ := tMF_liftD q2
    cases r1 with
    | int i =>
      cases r2 with
      | int j =>
        cases e
        refine ⟨_, _, rfl, rfl, _, rfl, ?_⟩
        cases h : p i j with
        | false =>
          rw [h] at q3
          rw [if_neg Bool.false_ne_true]
          obtain ⟨_, z⟩ := tMF_ret q3
          exact z _ F2 H2 (Gr.refl l) (.bl _)
        | true =>
          rw [h] at q3
          rw [if_pos rfl]
          refine ⟨F2, tMF_mono (tMF_bind q3) fun z H3 ⟨d3, F3, l3, r3, q4⟩ => ?_⟩
          obtain ⟨l4, r, e4, k4⟩ := tMF_lift q4
          cases r3 with
          | int k => cases e4; exact ⟨_, _, rfl, rfl, k4 _ F3 H3 (Gr.refl l4) (.bl _)⟩
          | _ => cases e4
      | _ => cases e
    | _ => cases e
/-! ### isinstance with a class that is built in, or several -/
def tyName : D → Option String
  | .non => some "NoneType"
  | .bl _ => some "bool"
  | .int _ => some "int"
  | .str _ => some "str"
  | .lst _ => some "list"
  | .scr _ => some "list"
  | .tup _ => some "tuple"
  | .dK _ => some "dict"
  | .dT _ => some "dict"
  | _ => none
theorem tyName.ok {K : Fg} {F H : Hp} {v : V} {d : D} {n : String} (r : RD K F v d) (l : Le F H) (e : tyName d = some n) : TyX K H v (.type n) := by
  cases r with
  | non => cases e; exact .base .non
  | bl b => cases e; exact .base (.bl b)
  | int b => cases e; exact .base (.int b)
  | str b => cases e; exact .base (.str b)
  | lst h s => cases e; exact .base (.lst (l _ _ h))
  | scr h s =>
    cases e
    rcases h with (h | ⟨o, h⟩) | ⟨o, its, n, hk, hc, _⟩
    · exact .base (.lst (l _ _ h))
    · exact .base (.frz (l _ _ h))
    · exact .kList hk hc
  | tup h s =>
    cases e
    rcases h with (h | ⟨o, h⟩) | ⟨o, its, n, hk, hc, _⟩
    · exact .base (.tup (l _ _ h))
    · exact .fTuple (l _ _ h)
    · exact .kTuple hk hc
  | dK h _ _ => cases e; exact .base (.dK (l _ _ h))
  | dT h _ _ => cases e; exact .base (.dT (l _ _ h))
  | _ => cases e
/-- isinstance(x, T) -/
def isiD (T : String) (d : D) : Option D := match tyName d with
  | some n => (kitB n T).map .bl
  | none => none
theorem de_isi {T : String} {y : Str} {p p2 : Pos} (hg : Gl X "isinstance") (hm : X.mg "isinstance" = none) (ha : DE X W ω a .fz m) (hy : PE X (.Name y p2) (tC (.ty T)))
    (he : starEach (a :: [.Name y p2]) X.env = (false, eval a X.env) :: starEach [.Name y p2] X.env := by rfl) (he2 : starEach [.Name y p2] X.env = (false, eval (.Name y p2) X.env) :: starEach [] X.env := by rfl) (hpl : (backTo pos (starEach [.Name y p2] X.env)).any (·.1) = false := by rfl) :
    DE X W ω (.Call (.Name "isinstance" p) [a, .Name y p2] [] pos) .fz (un1 (isiD T) m) :=
  PE.imp (pe_callB call_isi hg hm boot_isinstance (pa_cons ha (pa_cons hy pa_nil he2) he) (by decide) (by decide) he hpl) fun σ H Q q => by
    obtain ⟨F, q⟩ := tun q
    refine ⟨F, tMF_mono q fun x H1 ⟨F1, d, r, e, l, rd, k⟩ => ?_⟩
    unfold isiD at e
    cases en : tyName d with
    | none => rw [en] at e; cases e
    | some n =>
      rw [en] at e
      obtain ⟨b, eb, rfl⟩ := Option.map_eq_some_iff.mp e
      exact ⟨_, _, _, _, b, rfl, .ty T, tyName.ok rd l en, kit_ty eb, k _ F1 H1 (Gr.refl l) (.bl _)⟩
/-- isinstance(x, (T1, T2)) -/
def isi2D (T1 T2 : String) (d : D) : Option D := match tyName d with
  | some n => (match kitB n T1, kitB n T2 with
    | some a, some b => some (.bl (a || b))
    | _, _ => none)
  | none => none
theorem de_isi2 {T1 T2 : String} {y z : Str} {k2 : Nat} {p p2 p3 p4 : Pos} (hg : Gl X "isinstance") (hm : X.mg "isinstance" = none) (ha : DE X W ω a .fz m) (hy : PE X (.Name y p2) (tC (.ty T1))) (hz : PE X (.Name z p3) (tC (.ty T2)))
    (he : starEach (a :: [.Tuple [.Name y p2, .Name z p3] k2 p4]) X.env = (false, eval a X.env) :: starEach [.Tuple [.Name y p2, .Name z p3] k2 p4] X.env := by rfl) (he2 : starEach [.Tuple [.Name y p2, .Name z p3] k2 p4] X.env = (false, eval (.Tuple [.Name y p2, .Name z p3] k2 p4) X.env) :: starEach [] X.env := by rfl)
    (h3 : starEach [.Name y p2, .Name z p3] X.env = (false, eval (.Name y p2) X.env) :: starEach [.Name z p3] X.env := by rfl) (h4 : starEach [.Name z p3] X.env = (false, eval (.Name z p3) X.env) :: starEach [] X.env := by rfl) (hpl : (backTo pos (starEach [.Tuple [.Name y p2, .Name z p3] k2 p4] X.env)).any (·.1) = false := by rfl) :
    DE X W ω (.Call (.Name "isinstance" p) [a, .Tuple [.Name y p2, .Name z p3] k2 p4] [] pos) .fz (un1 (isi2D T1 T2) m) :=
  PE.imp (pe_callB call_isiT hg hm boot_isinstance (pa_cons ha (pa_cons (pe_tup (pa_cons hy (pa_cons hz pa_nil h4) h3)) pa_nil he2) he) (by decide) (by decide) he hpl) fun σ H Q q => by
    obtain ⟨F, q⟩ := tun q
    refine ⟨F, tMF_mono q fun x H1 ⟨F1, d, r, e, l, rd, k⟩ => ?_⟩
    refine ⟨by show 2 ≤ sizeLine; decide, fun tp np => ?_⟩
    unfold isi2D at e
    cases en : tyName d with
    | none => rw [en] at e; cases e
    | some n =>
      rw [en] at e
      dsimp only at e
      cases e1 : kitB n T1 with
      | none => rw [e1] at e; cases e
      | some b1 =>
        cases e2 : kitB n T2 with
        | none => rw [e1, e2] at e; cases e
        | some b2 =>
          rw [e1, e2] at e
          cases e
          have gr := Gr.one (o := .tup [.ty T1, .ty T2]) l np
          refine ⟨_, tp, _, _, [.type T1, .type T2], b1 || b2, rfl, upd_same, .cons (.ty T1) (.cons (.ty T2) .nil), tyName.ok (rd.mono gr.lf) gr.fh en, ?_, k _ _ _ gr (.bl _)⟩
          refine kitAny_cons (kit_ty e1) (fun z => ?_) (fun z => by rw [z]; rfl)
          rw [z, Bool.false_or]
          exact kitAny_cons (kit_ty e2) (fun z => by rw [z]; exact kitAny_nil) (fun z => z)
/-! ### in, not in; index -/
def flatE : D → Bool
  | .ty _ => false
  | d => flatD d
def flatDs (ds : List D) : Bool := ds.all flatE
def okDs (ds : List D) : Bool := plainDs ds && SeqAt.shaped (.list (toPs ds))
def hasD (x : D) (ds : List D) : Bool := ds.any fun y => eqD y x
def gIn : D → D → Option D := fun x y => match y with
  | .lst ds => if okD x && okDs ds then some (.bl (hasD x ds)) else none
  | .tup ds => if flatE x && flatDs ds then some (.bl (hasD x ds)) else none
  | _ => none
def gNotIn : D → D → Option D := fun x y => match y with
  | .lst ds => if okD x && okDs ds then some (.bl (!hasD x ds)) else none
  | .tup ds => if flatE x && flatDs ds then some (.bl (!hasD x ds)) else none
  | _ => none
theorem any_toPs (x : D) : ∀ ds : List D, ((toPs ds).any fun z => PyData.eqv z (toP x)) = hasD x ds
  | [] => rfl
  | d :: ds => by
    show (PyData.eqv (toP d) (toP x) || (toPs ds).any fun z => PyData.eqv z (toP x)) = _
    rw [any_toPs x ds]; rfl
theorem okDs.dp {K : Fg} {F H : Hp} {p : Addr} {xs : List V} {ds : List D} (h : F p = some (.lst xs)) (r : RDs K F xs ds) (l : Le F H) (k : okDs ds = true) : Dp K H (.ref p) (.list (toPs ds)) ∧ SeqAt.shaped (.list (toPs ds)) = true := by
  unfold okDs at k
  rw [Bool.and_eq_true] at k
  exact ⟨.lst (SqL.of (l _ _ h)) ((r.mono l).dp k.1), k.2⟩
/-- the flat values are told apart as the layer tells them -/
theorem eqV_D {K : Fg} {F : Hp} {x y : V} {d e : D} (r : RD K F x d) (q : RD K F y e) (h : flatE d = true) (h' : flatE e = true) : flatV x = true ∧ flatV y = true ∧ eqV y x = eqD e d := by
  cases r <;> first | (cases h; done) | skip
  all_goals (cases q <;> first | (cases h'; done) | skip)
  all_goals refine ⟨rfl, rfl, ?_⟩
  all_goals first
    | rfl
    | simp [eqV, eqD, toP, PyData.eqv]
theorem inV_D {K : Fg} {F : Hp} {x : V} {d : D} (r : RD K F x d) (h : flatE d = true) : ∀ {vs : List V} {ds : List D}, RDs K F vs ds → flatDs ds = true → vs.all flatV = true ∧ inV x vs = hasD d ds
  | _, _, .nil, _ => ⟨rfl, rfl⟩
  | _, _, .cons q qs, h' => by
    have h' : (flatE _ && flatDs _) = true := h'
    rw [Bool.and_eq_true] at h'
    obtain ⟨a, b⟩ := inV_D r h qs h'.2
    obtain ⟨c, e, f⟩ := eqV_D r q h h'.1
    refine ⟨by rw [List.all_cons, e, a]; rfl, ?_⟩
    unfold inV hasD at b ⊢
    rw [List.any_cons, List.any_cons, b, f]
theorem od_in (hu : X.A.units + 65 < cLine) : OpD X (compareOp .In) gIn := fun F d1 d2 r e => by
  unfold gIn at e
  split at e
  · split at e
    · rename_i h
      cases e
      rw [Bool.and_eq_true] at h
      refine OpR.imp (op_inD hu) fun x y H Q ⟨l, r1, r2, q⟩ => ?_
      cases r2 with
      | lst hp rs =>
        obtain ⟨a1, a2⟩ := okD.dp r1 l h.1
        obtain ⟨b1, b2⟩ := okDs.dp hp rs l h.2
        exact ⟨_, _, a1, b1, a2, b2, by rw [any_toPs]; exact q _ F H (Gr.refl l) (.bl _)⟩
    · cases e
  · split at e
    · rename_i h
      cases e
      rw [Bool.and_eq_true] at h
      refine OpR.imp op_in_seq fun x y H Q ⟨l, r1, r2, q⟩ => ?_
      cases r2 with
      | tup hp rs =>
        obtain ⟨a, b⟩ := inV_D r1 h.1 rs h.2
        obtain ⟨c, _, _⟩ := eqV_D r1 r1 h.1 h.1
        refine ⟨_, _, rfl, .inr (SqT.mono l hp), c, a, ?_⟩
        rw [if_neg Bool.false_ne_true, b]
        exact q _ F H (Gr.refl l) (.bl _)
    · cases e
  · cases e
theorem od_notIn (hu : X.A.units + 65 < cLine) : OpD X (compareOp .NotIn) gNotIn := fun F d1 d2 r e => by
  unfold gNotIn at e
  split at e
  · split at e
    · rename_i h
      cases e
      rw [Bool.and_eq_true] at h
      refine OpR.imp (op_notInD hu) fun x y H Q ⟨l, r1, r2, q⟩ => ?_
      cases r2 with
      | lst hp rs =>
        obtain ⟨a1, a2⟩ := okD.dp r1 l h.1
        obtain ⟨b1, b2⟩ := okDs.dp hp rs l h.2
        exact ⟨_, _, a1, b1, a2, b2, by rw [any_toPs]; exact q _ F H (Gr.refl l) (.bl _)⟩
    · cases e
  · split at e
    · rename_i h
      cases e
      rw [Bool.and_eq_true] at h
      refine OpR.imp op_notIn_seq fun x y H Q ⟨l, r1, r2, q⟩ => ?_
      cases r2 with
      | tup hp rs =>
        obtain ⟨a, b⟩ := inV_D r1 h.1 rs h.2
        obtain ⟨c, _, _⟩ := eqV_D r1 r1 h.1 h.1
        refine ⟨_, _, rfl, .inr (SqT.mono l hp), c, a, ?_⟩
        rw [if_pos rfl, b]
        exact q _ F H (Gr.refl l) (.bl _)
    · cases e
  · cases e
/-! ### methods of built-in types, on what is frozen -/
def tyD (T : String) : D → Bool
  | .str _ => T == "str"
  | .int _ => T == "int"
  | .lst _ => T == "list"
  | .dK _ => T == "dict"
  | .dT _ => T == "dict"
  | _ => false
theorem tyD.ok {K : Fg} {F H : Hp} {T : String} {v : V} {d : D} (r : RD K F v d) (l : Le F H) (h : tyD T d = true) : tyV K T v H := by
  cases r with
  | str x => exact beq_iff_eq.mp h
  | int x => exact beq_iff_eq.mp h
  | lst hp rs => exact .inl ⟨beq_iff_eq.mp h, _, SqL.of (l _ _ hp)⟩
  | dK hp _ _ => exact .inr (.inr (.inl ⟨beq_iff_eq.mp h, .inl ⟨_, l _ _ hp⟩⟩))
  | dT hp _ _ => exact .inr (.inr (.inl ⟨beq_iff_eq.mp h, .inr ⟨_, l _ _ hp⟩⟩))
  | _ => cases h
/-- the method id by data: the object, the arguments -/
def MetD (X : Cx) (T id : String) (g : D → List D → Option D) : Prop :=
  ∀ (F : Hp) (d : D) (ds : List D) (r : D), g d ds = some r → tyD T d = true ∧ MtR X id fun x xs H Q => Le F H ∧ RD X.K F x d ∧ RDs X.K F xs ds ∧ ∀ z F' H', Gr F H F' H' → RD X.K F' z r → Q z H'
def metM (g : D → List D → Option D) (m : M D) (ms : M (List D)) : M D := bindM m fun d => bindM ms fun ds => liftO (g d ds)
/-- what is known of the object ahead of the arguments: T's value -/
def metM' (T : String) (g : D → List D → Option D) (m : M D) (ms : M (List D)) : M D := bindM m fun d => if tyD T d = true then bindM ms fun ds => liftO (g d ds) else failM
theorem de_met {o : Expr} {es : List Expr} {T id : String} {name : Str} {apos cpos : Pos} {g : D → List D → Option D} {ms : M (List D)} (hm : MetD X T id g) (ho : DE X W ω o .fz m) (ha : DA X W ω es ms)
    (hx : PE X (.Call (.Attribute o name apos) es [] cpos) (fun σ H Q => tM X.K X.mg W ω .fz m σ H fun x H1 => tyV X.K T x H1 ∧ tA X.K X.mg W ω ms σ H1 fun xs H2 => ∃ F d ds r, g d ds = some r ∧ Le F H2 ∧ RD X.K F x d ∧ RDs X.K F xs ds ∧ ∀ z F' H', Gr F H2 F' H' → RD X.K F' z r → Q z H')) :
    DE X W ω (.Call (.Attribute o name apos) es [] cpos) .fz (metM' T g m ms) :=
  PE.imp hx fun σ H Q q => by
    obtain ⟨F, q⟩ := tM_bind q
    refine ⟨F, tMF_mono q fun x H1 ⟨d, F1, r1, q1⟩ => ?_⟩
    by_cases ht : tyD T d = true
    · rw [if_pos ht] at q1
      obtain ⟨G, ρ, S, q1⟩ := q1
      refine ⟨tyD.ok r1 S.fH ht, F1, G, ρ, S, Res.sat_mono (Res.sat_bind q1) (fun ds ρ1 p vs F2 H2 l S2 rs => ?_) fun _ _ z => z⟩
      cases eg : g d ds with
      | none => rw [eg] at p; exact p.elim
      | some r =>
        rw [eg] at p
        exact ⟨F2, d, ds, r, eg, S2.fH, r1.mono l, rs, fun z F' H' gr rz => p z F' H' (l.trans gr.lf) ((S2.gr gr).push rz)⟩
    · rw [if_neg ht] at q1
      obtain ⟨_, _, _, q1⟩ := q1
      exact q1.elim
theorem metR {T id : String} {g : D → List D → Option D} (hm : MetD X T id g) : MtR X id fun x xs H Q => ∃ F d ds r, g d ds = some r ∧ Le F H ∧ RD X.K F x d ∧ RDs X.K F xs ds ∧ ∀ z F' H', Gr F H F' H' → RD X.K F' z r → Q z H' :=
  fun pins s σ H x xs v us Q I rx rxs ⟨F, d, ds, r, e, q⟩ => (hm F d ds r e).2 pins s σ H x xs v us Q I rx rxs q
/-- xs.index(x): the first place of an equal one -/
def gIndex : D → List D → Option D
  | .lst xs, [y] => if okDs xs && okD y then (xs.findIdx? fun z => eqD z y).map fun (j : Nat) => .int (j : Int) else none
  | _, _ => none
theorem toPs_get : ∀ (ds : List D) (i : Nat), (toPs ds)[i]? = ds[i]?.map toP
  | [], i => by simp [toPs]
  | d :: ds, 0 => by simp [toPs]
  | d :: ds, i + 1 => by simpa [toPs] using toPs_get ds i
theorem md_index (hu : X.A.units + 65 < cLine) : MetD X "list" "list.index" gIndex := fun F d ds r e => by
  unfold gIndex at e
  split at e
  · split at e
    · rename_i xs y h
      rw [Bool.and_eq_true] at h
      obtain ⟨j, ej, rfl⟩ := Option.map_eq_some_iff.mp e
      refine ⟨rfl, fun pins s σ H x zs v us Q I rx rxs ⟨l, r1, rs, q⟩ => ?_⟩
      cases r1 with
      | lst hp s1 =>
        cases rs with
        | cons r2 rs =>
          cases rs
          obtain ⟨b1, b2⟩ := okDs.dp hp s1 l h.1
          obtain ⟨a1, a2⟩ := okD.dp r2 l h.2
          rw [List.findIdx?_eq_some_iff_getElem] at ej
          obtain ⟨hj, hjt, hno⟩ := ej
          refine mt_indexD hu pins s σ H _ _ v us Q I rx rxs ⟨_, _, toP y, toPs xs, j, toP xs[j], rfl, rfl, b1, a1, b2, a2, by rw [toPs_get]; simp [hj], hjt, fun m z' hm hz => ?_, q _ F H (Gr.refl l) (.int _)⟩
          rw [toPs_get, List.getElem?_eq_getElem (by omega)] at hz
          cases hz
          have := hno m hm
          simpa [eqD] using this
    · cases e
  · cases e
/-! ### list(x), tuple(x) -/
def gList : List D → Option D
  | [.lst xs] => some (.lst xs)
  | [.tup xs] => some (.lst xs)
  | [.scr xs] => some (.lst xs)
  | _ => none
theorem cd_list : CallD X (.type "list") gList := fun F ds r e => by
  unfold gList at e
  split at e
  · cases e
    refine CallR.imp call_list_of fun xs H Q ⟨l, rs, q⟩ => ?_
    cases rs with | cons r rs => cases rs; cases r with | lst h s => exact ⟨_, _, rfl, .inl (SqL.of (l _ _ h)), fun p np => q _ _ _ (Gr.one l np) (.lst upd_same (s.mono (Le.upd (l.none np))))⟩
  · cases e
    refine CallR.imp call_list_of fun xs H Q ⟨l, rs, q⟩ => ?_
    cases rs with | cons r rs => cases rs; cases r with | tup h s => exact ⟨_, _, rfl, .inr (SqT.mono l h), fun p np => q _ _ _ (Gr.one l np) (.lst upd_same (s.mono (Le.upd (l.none np))))⟩
  · cases e
    refine CallR.imp call_list_of fun xs H Q ⟨l, rs, q⟩ => ?_
    cases rs with | cons r rs => cases rs; cases r with | scr h s => exact ⟨_, _, rfl, .inl (SqL.mono l h), fun p np => q _ _ _ (Gr.one l np) (.lst upd_same (s.mono (Le.upd (l.none np))))⟩
  · cases e
def gTuple : List D → Option D
  | [.lst xs] => some (.tup xs)
  | [.tup xs] => some (.tup xs)
  | [.scr xs] => some (.tup xs)
  | _ => none
theorem cd_tuple : CallD X (.type "tuple") gTuple := fun F ds r e => by
  unfold gTuple at e
  split at e
  · cases e
    refine CallR.imp call_tuple_of fun xs H Q ⟨l, rs, q⟩ => ?_
    cases rs with | cons r rs => cases rs; cases r with | lst h s => exact ⟨_, _, rfl, .inl ⟨SqL.of (l _ _ h), fun p np => q _ _ _ (Gr.one l np) (.tup (SqT.of upd_same) (s.mono (Le.upd (l.none np))))⟩⟩
  · cases e
    refine CallR.imp call_tuple_of fun xs H Q ⟨l, rs, q⟩ => ?_
    cases rs with | cons r rs => cases rs; cases r with | tup h s => exact ⟨_, _, rfl, .inr ⟨SqT.mono l h, q _ F H (Gr.refl l) (.tup h s)⟩⟩
  · cases e
    refine CallR.imp call_tuple_of fun xs H Q ⟨l, rs, q⟩ => ?_
    cases rs with | cons r rs => cases rs; cases r with | scr h s => exact ⟨_, _, rfl, .inl ⟨SqL.mono l h, fun p np => q _ _ _ (Gr.one l np) (.tup (SqT.of upd_same) (s.mono (Le.upd (l.none np))))⟩⟩
  · cases e
end
end DL
/-! DL: the head: facts by names, and more by a Bool. -/
namespace DL
open PySem PySem.Spec PyProof.Rows L2
abbrev AlB : Type := He.AlD × Bool
structure SaysB (fa : List He.Fa) (fn : List He.DefD) (ex : Fg → Bool) (K : Fg) : Prop where
  d : He.SaysD fa fn K
  x : ex K = true
def obsB (n : Nat) (fa : List He.Fa) (fn : List He.DefD) (ex : Fg → Bool) (g : Addr → Option Obj) : AlB := (He.obsD fa fn (He.frG g (He.asD g n)), ex (He.frG g (He.asD g n)))
def hookB (n : Nat) (fa : List He.Fa) (fn : List He.DefD) (ex : Fg → Bool) : PySem.W.Hook where
  α := AlB
  obs := fun s => obsB n fa fn ex s.heap.get?
  val := fun _ => (He.valD fn, true)
  says := fun _ h => ∃ K : PySem.W.Frag, K.In h ∧ SaysB fa fn ex K
  of := fun _ _ e => ⟨_, He.frG_in, congrArg (fun z : AlB => z.1) e, congrArg (fun z : AlB => z.2) e⟩
  keeps := fun _ _ _ ⟨K, hK, c⟩ k => ⟨K, PySem.W.Frag.In.keeps hK k, c⟩
theorem obsB_eq {n : Nat} {fa : List He.Fa} {fn : List He.DefD} {ex : Fg → Bool} {g : Addr → Option Obj} {s : Shared} (h : ∀ a, g a = s.heap.get? a) : obsB n fa fn ex g = (hookB n fa fn ex).obs s := by
  have e : g = s.heap.get? := funext h
  rw [e] <;> rfl
/-- a def's body by FunD -/
theorem fnGD {P : Program} {w : World} {K : Fg} {mg : Str → Option Value} {base : Heap} {k : Nat} {f : Addr} {N ps : List Str} {sp : Sp} {x qual : Str} {params : Arguments} {body : List Stmt} {scope : Scope} {dvs : List V} {kws : List (Str × V)} {fd : FuncData}
    (Fn : FunD K x qual params body scope dvs kws f fd) (S : FnScope N ps scope) (len : ∀ vs H Q E, sp vs H Q E → vs.length = ps.length)
    (hb : ∀ (cdv : Value) (A : Around) (outer : List Env) (s : Shared) (H : Hp) (vs : List V) (Q : VK) (E : XK), Room k (A.deeper (envOfC qual scope s.heap.objs.size f cdv)) → A.guards = some [] → sp vs H Q E →
      ∃ t, PSs (cxOf (L2.CX P w) P w K mg base N qual scope f cdv A outer s H E) body t ∧ t { nx := fun _ H' => Q .non H', rt := Q } (start N vs) H) : FnG P w K mg base (k + 1) f fd ps sp := by
  obtain ⟨oc, od, dV, kV, doc, pm, an, cdv, ct, osl, rfl, lk, hcd, _, _⟩ := Fn.ex
  refine ⟨len, fun A outer s H args us vs Q E room gd en bt rv want => ?_⟩
  have inK : K.In s.heap := en.mod.kin.keeps fun b o e => (en.bs b o e).1
  obtain ⟨t, body, reads⟩ := hb cdv A outer s H vs Q E (room.deeper _) gd want
  have kinds : ∀ y ∈ ps.zip us, scope.names.lookup y.1 = some .local ∨ (scope.names.lookup y.1 = some .cell ∧ ((cellsFrom (s.heap.objs.size + 1) scope.names []).lookup y.1).isSome = true) := by
    rintro ⟨n, v⟩ hy
    exact (S.par n (List.of_mem_zip hy).1).imp id fun q => ⟨q, PySem.W.cellsFrom_some _ _ _ (.inl q)⟩
  refine codeAny_call_function room.depth (inK _ _ lk) rfl S.co S.gen rfl (PySem.W.codeRec_of inK hcd) (bt _ _ _ _ (wpAny_newFunctionEnv_cells S.kind kinds fun env he s1 x => ?_))
  subst he
  refine ⟨(en.mod.nolimit.keeps fun b o e => (en.bs b o e).1).keeps x.toInCall.keep, codeAny_func (wpAny_mono (body.run [] s1 (start N vs) H _ (inv_start S room.hd en (len _ _ _ _ want) rv x) reads) (fun fl s' hs => ?_) fun _ _ z => z)⟩
  cases fl with
  | next =>
    obtain ⟨σ', H', J, q⟩ := hs
    exact ⟨.non, H', J.os, J.bare, J.base, J.hok, rfl, q⟩
  | ret u =>
    obtain ⟨v, σ', H', J, r, q⟩ := hs
    exact ⟨v, H', J.os, J.bare, J.base, J.hok, r, q⟩
  | brk => exact hs.elim fun _ z => z.elim fun _ z => z.2.elim
  | cont => exact hs.elim fun _ z => z.elim fun _ z => z.2.elim
section
variable {P : Program} {w : World} {K : Fg} {mg : Str → Option Value} {base : Heap} {k : Nat} {f : Addr} {N ps : List Str} {x qual : Str} {params : Arguments} {body : List Stmt} {scope : Scope} {dvs : List V} {kws : List (Str × V)} {fd : FuncData}
/-- a def whose arguments are frozen -/
theorem fnFD {rs : Sh} {ω' : List Sh} {b : M Fl} (thru : Bool) (Fn : FunD K x qual params body scope dvs kws f fd) (S : FnScope N ps scope)
    (hb : ∀ (cdv : Value) (A : Around) (outer : List Env) (s : Shared) (H : Hp) (E : XK), Room k (A.deeper (envOfC qual scope s.heap.objs.size f cdv)) → A.guards = some [] →
      DSs (cxOf (L2.CX P w) P w K mg base N qual scope f cdv A outer s H E) (sxF N rs E) (List.replicate N.length .fz) body ω' b)
    (hn : ps.length ≤ N.length := by decide) (hrs : thru = true → rs = .fz := by first | exact fun _ => rfl | exact fun z => nomatch z) :
    FnG P w K mg base (k + 1) f fd ps (spF K mg ps.length rs (runB N.length [] thru b)) := by
  refine fnGD Fn S (fun vs H Q E h => h.1) fun cdv A outer s H vs Q E room gd ⟨hl, F, G, ds, r, fH, gH, dj, q⟩ => ⟨_, hb cdv A outer s H E room gd, ?_⟩
  have hds : ds.length = ps.length := by rw [← r.length]; exact hl
  refine ⟨F, G, ds.map some ++ List.replicate (N.length - ds.length) none, ⟨⟨[], ?_, fun _ m => by cases m⟩, fH, gH, dj⟩, ?_⟩
  · have o := (OwnL.rds (H := H) r).app (N.length - ds.length)
    rw [List.replicate_append_replicate, show ds.length + (N.length - ds.length) = N.length by omega] at o
    unfold L2.start
    rw [hl, ← hds]
    exact o
  · refine Res.sat_mono (runB_sat q) (fun fl ρ' z => ?_) fun e ρ' z => ?_
    · cases fl with
      | rt d => exact z
      | nx =>
        obtain ⟨ht, z⟩ := z
        cases hrs ht
        exact fun σ' F' H' l S' => z .non F' H' l (Sim.push ⟨⟨[], .nil, fun _ m => by cases m⟩, S'.fH, S'.gH, S'.dj⟩ .non)
      | bk => exact z.elim
      | ct => exact z.elim
    · exact fun σ' F' H' cls dx l S' x => z F' H' cls dx l S'.fH S'.gH S'.dj x
/-- a def whose first argument is a list that it changes for the caller -/
theorem fnPD {rs : Sh} {ω' : Addr → List Sh} {b : M Fl} {p0 : Str} {ps : List Str} (Fn : FunD K x qual params body scope dvs kws f fd) (S : FnScope N (p0 :: ps) scope)
    (hb : ∀ (cdv : Value) (A : Around) (outer : List Env) (s : Shared) (H : Hp) (E : XK) (a : Addr), Room k (A.deeper (envOfC qual scope s.heap.objs.size f cdv)) → A.guards = some [] →
      DSs (cxOf (L2.CX P w) P w K mg base N qual scope f cdv A outer s H E) (sxP N rs a E) (.pin a (.lst .fz) :: List.replicate (N.length - 1) .fz) body (ω' a) b)
    (hn : ps.length + 1 ≤ N.length := by decide) :
    FnG P w K mg base (k + 1) f fd (p0 :: ps) (spP K mg ps.length rs (runB N.length [.lst .fz] false b)) := by
  refine fnGD Fn S (fun vs H Q E h => h.1) fun cdv A outer s H vs Q E room gd ⟨hl, F, G, a, xs, vs', ds, ds', ev, ha, fa, ga, rx, r, fH, gH, dj, q⟩ => ⟨_, hb cdv A outer s H E a room gd, ?_⟩
  subst ev
  have hl' : vs'.length = ps.length := by simpa using hl
  have hds : ds'.length = ps.length := by rw [← r.length]; exact hl'
  refine ⟨F, G, (.lst ds :: ds').map some ++ List.replicate (N.length - (ds'.length + 1)) none, ⟨⟨[a] ++ [], ?_, fun x m => ?_⟩, fH, gH, dj⟩, ?_⟩
  · have o := (OwnL.rds (H := H) r).app (N.length - (ds'.length + 1))
    rw [List.replicate_append_replicate, show ds'.length + (N.length - (ds'.length + 1)) = N.length - 1 by omega] at o
    unfold L2.start
    rw [hl, ← hds]
    exact OwnL.bd (.pin (.lst ha (Owns.of_rds rx) (fun z => by cases z))) o (fun _ _ z => by cases z)
  · have : x = a := by simpa using m
    subst this; exact ⟨fa, ga⟩
  · refine Res.sat_mono (runB_sat q) (fun fl ρ' z => ?_) fun e ρ' z => ?_
    · cases fl with
      | rt d => exact z
      | nx => exact absurd z.1 Bool.false_ne_true
      | bk => exact z.elim
      | ct => exact z.elim
    · exact fun σ' F' H' cls dx l S' x => z F' H' cls dx l S'.fH S'.gH S'.dj x
end
/-- the goal that such a head leaves, from the law's worth -/
theorem walk_lawE {l : PySem.W.OpenLaw} {n k : Nat} {q : Program} {loose : List Str} {XP : (Str → Option Value) → Heap → Prop} {YP : World → Heap → Prop} {d : DefRec} {x : Str} {f : List D → Res D}
    (hn : l.most = some n) (hn2 : n ≤ sizeLine) (hdf : d.params.defaults = []) (hr : Room k callerA)
    (Fn : ∀ (w : World) (mg : Str → Option Value) (fa : Addr) (h : Heap), YP w h → h.Ns mainGlobals mg → mg d.name = some (.ref fa) →
      ∃ (K : Fg) (fd : FuncData), K.In h ∧ (∀ (s : Shared) (u : Value), BindsTo s fd ⟨[u], []⟩ [(x, u)]) ∧ ∀ base : Heap, K.In base → base.Ns mainGlobals mg → FnG l.prog w K mg base k fa fd [x] (spF K mg 1 .fz f))
    (hf : ∀ ns : List Int, ns.length ≤ n → ∃ ρ, f [.scr (ns.map D.int)] = .ok (.bl true) ρ) : PySem.W.WalkO q loose XP YP l.row.toRowW d [] (fun f vs => PySem.call f vs) := by
  refine Att.attach_call hn hdf fun w s₀ s₁ mg mb fa o pm cd doc a vs ns G Y ho hd hcd hmg hobj hints hlen hg => ?_
  obtain ⟨K, fd, KX, hb, hF⟩ := Fn w mg fa _ Y G.T.g hmg
  exact law_run KX G.T.g G.T.b G.T.builtins G.T.nolimit hg hobj hints (Nat.le_trans hlen hn2) hr hF hb (hf ns hlen)
end DL
/-! DL: what the printed walks take. -/
namespace DL
open PySem PySem.Spec PyProof.Rows L2
section
variable {X : Cx} {W : WX} {C : Sx} {ω : List Sh} {pos : Pos} {a b c e : Expr} {m m1 m2 m3 : M D} {sh : Sh}
/-- a list display that is owned -/
theorem de_lstO {es : List Expr} {ms : M (List D)} (ha : DA X W ω es ms) : DE X W ω (.List es pos) (.lst .fz) (appM gLst ms) :=
  PE.imp (pe_lst ha) fun σ H Q q => by
    obtain ⟨F, G, ρ, S, q⟩ := q
    refine (⟨F, G, ρ, S, Res.sat_mono (Res.sat_bind q) (fun ds ρ1 p vs F1 H1 l S1 rs => ?_) fun _ _ z => z⟩ : tA X.K X.mg W ω ms σ H _)
    by_cases hl : ds.length ≤ sizeLine
    · have p : ((if ds.length ≤ sizeLine then some (D.lst ds) else none : Option D) |> fun o => (liftO o ρ1).sat _ _) := p
      rw [if_pos hl] at p
      refine ⟨by rw [rs.length]; exact hl, fun pp np => p (.ref pp) F1 _ l ?_⟩
      obtain ⟨⟨fp, o, n⟩, a, b, dj⟩ := S1
      have fD : F1 pp = none := a.none np
      have gD : G pp = none := b.none np
      refine ⟨⟨[pp] ++ fp, .bd (.lst upd_same (Owns.of_rds rs) (fun z => by cases z)) (o.mono (Le.refl _) fun x m u e => by rw [upd_ne (ne_of_none e np)]; exact e) fun x m z => ?_, fun x m => ?_⟩, fun x u e => ?_, fun x u e => ?_, dj⟩
      · have : x = pp := by simpa using m
        subst this
        obtain ⟨u, e⟩ := o.live x z
        rw [np] at e; cases e
      · rcases List.mem_append.mp m with m | m
        · have : x = pp := by simpa using m
          subst this; exact ⟨fD, gD⟩
        · exact n x m
      · rw [upd_ne (ne_of_none e fD)]; exact a x u e
      · rw [upd_ne (ne_of_none e gD)]; exact b x u e
    · have p : ((if ds.length ≤ sizeLine then some (D.lst ds) else none : Option D) |> fun o => (liftO o ρ1).sat _ _) := p
      rw [if_neg hl] at p
      exact p.elim
/-- a, b = x, y -/
theorem ds_par2 {i j : Nat} {x y : Str} {a b : Expr} {ms : M (List D)} {px py pt : Pos} {kt k2 pt2} (wk : Wk ω C.ωe) (hi : ω[i]? = some .fz) (hj : ω[j]? = some .fz) (hc : X.calm = true) (hN : X.N.Nodup) (ha : DA X C.W ω [a, b] ms) (ni : X.N[i]? = some x := by rfl) (nj : X.N[j]? = some y := by rfl) (hij : i ≠ j := by decide)
    (hx : X.env.scope.names.lookup x = some .local := by rfl) (hy : X.env.scope.names.lookup y = some .local := by rfl)
    (hw : swappedStores [.Tuple [.Name x px, .Name y py] kt pt] (.Tuple [a, b] k2 pt2) X.env = pure (some [x, y]) := by rfl)
    (hs : swapsWithSole [.Tuple [.Name x px, .Name y py] kt pt] (.Tuple [a, b] k2 pt2) pos.line X.env = pure false := by rfl) :
    DS X C ω (.Assign [.Tuple [.Name x px, .Name y py] kt pt] (.Tuple [a, b] k2 pt2) pos) ω (parM i j ms) :=
  ds_par (t := tPar i j) wk hi hj (ps_par hc hN ni nj hij hx hy ha hw hs)
/-- a, b, c = x, y, z -/
def parM3 (i j l : Nat) (ms : M (List D)) : M Fl := bindM ms fun ds ρ => match ds with
  | [x, y, z] => .ok .nx (((ρ.set i (some x)).set j (some y)).set l (some z))
  | _ => .no
theorem ds_par3 {i j l : Nat} {x y z : Str} {a b c : Expr} {ms : M (List D)} {px py pz pt : Pos} {kt k2 pt2} (wk : Wk ω C.ωe) (hi : ω[i]? = some .fz) (hj : ω[j]? = some .fz) (hl : ω[l]? = some .fz) (hc : X.calm = true) (hN : X.N.Nodup) (ha : DA X C.W ω [a, b, c] ms) (ni : X.N[i]? = some x := by rfl) (nj : X.N[j]? = some y := by rfl) (nl : X.N[l]? = some z := by rfl) (hij : i ≠ j := by decide) (hil : i ≠ l := by decide) (hjl : j ≠ l := by decide)
    (hx : X.env.scope.names.lookup x = some .local := by rfl) (hy : X.env.scope.names.lookup y = some .local := by rfl) (hz : X.env.scope.names.lookup z = some .local := by rfl)
    (hw : swappedStores [.Tuple [.Name x px, .Name y py, .Name z pz] kt pt] (.Tuple [a, b, c] k2 pt2) X.env = pure (some [x, y, z]) := by rfl)
    (hs : swapsWithSole [.Tuple [.Name x px, .Name y py, .Name z pz] kt pt] (.Tuple [a, b, c] k2 pt2) pos.line X.env = pure false := by rfl) :
    DS X C ω (.Assign [.Tuple [.Name x px, .Name y py, .Name z pz] kt pt] (.Tuple [a, b, c] k2 pt2) pos) ω (parM3 i j l ms) :=
  PS.imp (ps_par3 hc hN ni nj nl hij hil hjl hx hy hz ha hw hs) fun D σ H q => by
    obtain ⟨F, G, ρ, S, h⟩ := tS_bindA wk q
    refine ⟨F, G, ρ, S, Res.sat_mono h (fun ds ρ' p vs F' H' l S' rs => ?_) fun _ _ z => z⟩
    obtain ⟨ds, F1, G, ρ1, rs, S1, z⟩ := p vs F' H' l S' rs
    split at z
    · cases rs with
      | cons r1 rs =>
        cases rs with
        | cons r2 rs =>
          cases rs with
          | cons r3 rs =>
            cases rs
            exact ⟨_, _, _, rfl, z _ F1 _ (Le.refl _) (((S1.setFz hi r1).setFz hj r2).setFz hl r3)⟩
    · exact z.elim
/-! ### // with a great positive divisor -/
def divOk (j : Int) : Bool := decide (j ≠ 0 ∧ j.natAbs < 1073741824) || decide (0 < j ∧ j.natAbs < 2 ^ 4000)
def gDivW : D → D → Option D
  | .int i, .int j => if divOk j then some (.int (i.fdiv j)) else none
  | _, _ => none
theorem od_divW : OpD X (binaryOp .FloorDiv) gDivW := fun F d1 d2 r e => by
  unfold gDivW at e
  split at e
  · rename_i i j
    split at e
    · rename_i h
      cases e
      unfold divOk at h
      rw [Bool.or_eq_true] at h
      rcases h with h | h
      · have h := of_decide_eq_true h
        refine OpR.imp op_fdivN fun x y H Q ⟨l, r1, r2, q⟩ => ?_
        cases r1; cases r2
        exact ⟨_, _, rfl, rfl, h, q _ F H (Gr.refl l) (.int _)⟩
      · have h := of_decide_eq_true h
        refine OpR.imp op_fdivW fun x y H Q ⟨l, r1, r2, q⟩ => ?_
        cases r1; cases r2
        refine ⟨_, _, rfl, rfl, wide_div h.1 h.2 (by decide) (by decide), ?_⟩
        show Q (.int (i / j)) H
        rw [← Int.fdiv_eq_ediv_of_nonneg i (Int.le_of_lt h.1)]
        exact q _ F H (Gr.refl l) (.int _)
    · cases e
  · cases e
/-! ### op= on whole numbers and texts -/
def gAddI : D → D → Option D
  | .int i, .int j => some (.int (i + j))
  | .str x, .str y => if x.length + y.length ≤ sizeLine then some (.str (x ++ y)) else none
  | _, _ => none
theorem od_iadd : OpD X (inplaceOp .Add) gAddI := fun F d1 d2 r e => by
  unfold gAddI at e
  split at e
  · cases e
    refine OpR.imp iop_add fun x y H Q ⟨l, r1, r2, q⟩ => ?_
    cases r1; cases r2
    exact ⟨_, _, rfl, rfl, q _ F H (Gr.refl l) (.int _)⟩
  · split at e
    · rename_i h
      cases e
      refine OpR.imp iop_add_str fun x y H Q ⟨l, r1, r2, q⟩ => ?_
      cases r1; cases r2
      exact ⟨_, _, rfl, rfl, h, q _ F H (Gr.refl l) (.str _)⟩
    · cases e
  · cases e
theorem od_isub : OpD X (inplaceOp .Sub) gSubI := opd_int0 iop_sub fun d1 d2 r e => by
  unfold gSubI at e
  split at e
  · cases e; exact ⟨_, _, rfl, rfl, rfl⟩
  · cases e
/-! ### module constants -/
theorem de_gint {x : Str} {i : Int} (hg : Gl X x) (hm : ∃ t, X.mg x = some (.int i t)) (hd : (x == ("__debug__" : Str)) = false := by decide) : DE X W ω (.Name x pos) .fz (pureM (.int i)) := by
  obtain ⟨t, hm⟩ := hm
  exact de_const (pe_glob (v := .int i) hg hm ⟨t, rfl⟩ hd) fun _ => .int i
theorem de_gstr {x : Str} {i : Str} (hg : Gl X x) (hm : ∃ t, X.mg x = some (.str i t)) (hd : (x == ("__debug__" : Str)) = false := by decide) : DE X W ω (.Name x pos) .fz (pureM (.str i)) := by
  obtain ⟨t, hm⟩ := hm
  exact de_const (pe_glob (v := .str i) hg hm ⟨t, rfl⟩ hd) fun _ => .str i
theorem de_gref {x : Str} {p : Addr} {d : D} (hg : Gl X x) (hm : X.mg x = some (.ref p)) (r : ∀ F, RD X.K F (.ref p) d) (hd : (x == ("__debug__" : Str)) = false := by decide) : DE X W ω (.Name x pos) .fz (pureM d) :=
  de_const (pe_glob (v := .ref p) hg hm rfl hd) r
/-- flat values of a table -/
def dvD : He.Dv → D
  | .non => .non
  | .bl b => .bl b
  | .int i => .int i
  | .str x => .str x
  | _ => .non
def dvFlat : He.Dv → Bool
  | .non => true
  | .bl b => true
  | .int i => true
  | .str x => true
  | _ => false
theorem dv_rds {K : Fg} {F : Hp} : ∀ {vs : List He.Dv}, vs.all dvFlat = true → RDs K F (vs.map (He.Dv.v K)) (vs.map dvD)
  | [], _ => .nil
  | v :: vs, h => by
    rw [List.all_cons, Bool.and_eq_true] at h
    refine .cons ?_ (dv_rds h.2)
    cases v with
    | non => exact .non
    | bl b => exact .bl b
    | int i => exact .int i
    | str x => exact .str x
    | _ => exact nomatch h.1
theorem gtup_rd {K : Fg} {x : Str} {vs : List He.Dv} (h : He.tupB K x vs = true) (hf : vs.all dvFlat = true := by rfl) : ∀ F, RD K F (.ref (He.ga K x)) (.tup (vs.map dvD)) := fun F => .tup (He.tupB_ok h F) (dv_rds hf)
/-! ### def's body, block -/
theorem lets0 : Lets X W0 := fun _ _ _ _ _ _ _ h => by
  obtain ⟨_, _, _, _, _, _, _, _, _, _, _, _, z⟩ := h
  exact z.elim
end
section
variable {P : Program} {w : World} {K : Fg} {mg : Str → Option Value} {base : Heap} {N : List Str} {qual : Str} {scope : Scope} {f : Addr} {cdv : Value} {A : Around} {outer : List Env} {s : Shared} {H : Hp} {E : XK}
theorem letsB : Lets (cxOf (L2.CX P w) P w K mg base N qual scope f cdv A outer s H E) (fun cls d _ H => E cls d H) := fun σ => passAt (takes_of rfl rfl rfl rfl) σ
theorem passB : PassesOwn (model P w) (A.deeper (envOfC qual scope s.heap.objs.size f cdv)) (envOfC qual scope s.heap.objs.size f cdv) (cxOf (L2.CX P w) P w K mg base N qual scope f cdv A outer s H E).xe := passes_of (X := cxOf (L2.CX P w) P w K mg base N qual scope f cdv A outer s H E) rfl
end
/-- a def that may be called: its promise, its binding, its name -/
structure Got (P : Program) (w : World) (K : Fg) (mg : Str → Option Value) (base : Heap) (k : Nat) (fd : FuncData) (x : Str) (ps : List Str) (sp : Sp) : Prop where
  fn : FnG P w K mg base k (He.ga K x) fd ps sp
  bd : Binds K fd ps []
  mg : mg x = some (.ref (He.ga K x))
  kp : PySem.W.keepIn K (.ref (He.ga K x)) = true
section
variable {X : Cx} {W : WX} {ω : List Sh} {k : Nat} {fd : FuncData} {ps : List Str} {x : Str} {p pos : Pos} {e : Expr} {es : List Expr} {ms : M (List D)} {rs : Sh} {g : List D → Res D} {np : Nat}
theorem dc (Fn : Got X.prog X.w X.K X.mg X.base k fd x ps (spF X.K X.mg np rs g)) (hr : Room k X.A) (gd : X.A.guards = some []) (hx : Lets X W) (ha : DA X W ω (e :: es) ms) (hg : Gl X x := by rfl) (hps : np = ps.length := by rfl)
    (hdb : (x == ("__debug__" : Str)) = false := by decide) (he : starEach (e :: es) X.env = (false, eval e X.env) :: starEach es X.env := by rfl) (hpl : (backTo pos (starEach es X.env)).any (·.1) = false := by rfl) :
    DE X W ω (.Call (.Name x p) (e :: es) [] pos) rs (callM np [] g ms) :=
  de_call Fn.fn hr gd hg Fn.mg Fn.kp Fn.bd .nil (fun _ => .nil) hx ha hps hdb he hpl
theorem dcP {s : Sh} {i : Nat} {y : Str} {py : Pos} (Fn : Got X.prog X.w X.K X.mg X.base k fd x ps (spP X.K X.mg np rs g)) (hr : Room k X.A) (gd : X.A.guards = some []) (hx : Lets X W) (h1 : ω[i]? = some s) (hs : coreSh s = .lst .fz) (hv : PE X (.Name y py) (tVar i)) (ha : DA X W ω es ms) (hg : Gl X x := by rfl) (hps : np + 1 = ps.length := by rfl)
    (hdb : (x == ("__debug__" : Str)) = false := by decide) (hst : starEach (.Name y py :: es) X.env = (false, eval (.Name y py) X.env) :: starEach es X.env := by rfl) (hpl : (backTo pos (starEach es X.env)).any (·.1) = false := by rfl) :
    DE X W ω (.Call (.Name x p) (.Name y py :: es) [] pos) rs (callP np [] g i ms) :=
  de_callP Fn.fn hr gd hg Fn.mg Fn.kp Fn.bd .nil (fun _ => .nil) hx h1 hs hv ha hps hdb hst hpl
/-- a rearrangement by keywords -/
def KwB (K : Fg) (fd : FuncData) (ps ks : List Str) (ix : List Nat) : Prop := ∀ (s : Shared) (ws : List Value), K.In s.heap → ws.length = ks.length → BindsTo s fd ⟨[], ks.zip ws⟩ (ps.zip (byIx ix ws))
theorem dck {ix : List Nat} {ks : List Str} {kws : List Keyword} (Fn : Got X.prog X.w X.K X.mg X.base k fd x ps (spF X.K X.mg np rs g)) (hb : KwB X.K fd ps ks ix) (hr : Room k X.A) (gd : X.A.guards = some []) (hx : Lets X W) (ha : DK X W ω kws ms) (hix : ∀ xs : List V, xs.length = np → (byIx ix xs).length = np) (hg : Gl X x := by rfl) (hnk : ks.length = np := by rfl)
    (hks : (backToKw pos (keywordEach kws X.env)).filterMap (·.1) = ks := by rfl) (hall : (backToKw pos (keywordEach kws X.env)).all (·.1.isSome) = true := by rfl)
    (hdb : (x == ("__debug__" : Str)) = false := by decide) (hpl : ((backTo pos (starEach [] X.env)).any (·.1) || (backToKw pos (keywordEach kws X.env)).any (·.1.isNone)) = false := by rfl) :
    DE X W ω (.Call (.Name x p) [] kws pos) rs (callM np [] (fun ds => g (byIx ix ds)) ms) :=
  de_callK Fn.fn hr gd hg Fn.mg Fn.kp hb hx ha hnk hks hall hix hdb hpl
/-- built-ins -/
theorem db {id : String} {gg : List D → Option D} (hc : CallD X (.builtin id) gg) (hm : X.mg x = none) (hv : bootBuiltins x = some (.builtin id)) (ha : DA X W ω (e :: es) ms) (hg : Gl X x := by rfl)
    (hn : x ≠ "__name__" := by decide) (hdb : (x == ("__debug__" : Str)) = false := by decide) (he : starEach (e :: es) X.env = (false, eval e X.env) :: starEach es X.env := by rfl) (hpl : (backTo pos (starEach es X.env)).any (·.1) = false := by rfl) :
    DE X W ω (.Call (.Name x p) (e :: es) [] pos) .fz (appM gg ms) := de_callB hc hg hm hv ha hn hdb he hpl
theorem dty {T : String} {gg : List D → Option D} (hc : CallD X (.type T) gg) (hm : X.mg x = none) (hv : bootBuiltins x = some (.type T)) (ha : DA X W ω (e :: es) ms) (hg : Gl X x := by rfl)
    (hn : x ≠ "__name__" := by decide) (hdb : (x == ("__debug__" : Str)) = false := by decide) (he : starEach (e :: es) X.env = (false, eval e X.env) :: starEach es X.env := by rfl) (hpl : (backTo pos (starEach es X.env)).any (·.1) = false := by rfl) :
    DE X W ω (.Call (.Name x p) (e :: es) [] pos) .fz (appM gg ms) := de_callTy hc hg hm hv ha hn hdb he hpl
end
end DL
namespace DL
open PySem PySem.Spec PyProof.Rows L2
section
variable {X : Cx} {W : WX} {ω : List Sh}
theorem de_bm {o e : Expr} {es : List Expr} {T id : String} {name : Str} {apos cpos : Pos} {g : D → List D → Option D} {m : M D} {ms : M (List D)} (pa : PlainAttrs T) (slot : Slot T name id) (hty : typeOf (.builtin id) = pure (.type "method_descriptor")) (hm : MetD X T id g) (ho : DE X W ω o .fz m) (ha : DA X W ω (e :: es) ms)
    (hbase : attributeBase o name X.env (eval o X.env) = eval o X.env := by rfl)
    (hfew : ((backTo cpos (starEach (e :: es) X.env)).all (fun x => !x.1) && (backToKw cpos (keywordEach [] X.env)).all (fun x => x.1.isSome)
      && decide ((e :: es).length + ([] : List Keyword).length + (if ([] : List Keyword).isEmpty then 0 else 1) < 30)) = true := by rfl)
    (hline : (apos.endLine == cpos.line) = true := by rfl) (hs : starEach (e :: es) X.env = (false, eval e X.env) :: starEach es X.env := by rfl) (hplain : (backTo cpos (starEach es X.env)).any (·.1) = false := by rfl) :
    DE X W ω (.Call (.Attribute o name apos) (e :: es) [] cpos) .fz (metM' T g m ms) :=
  de_met hm ho ha (pe_bm pa slot hty (metR hm) ho ha hbase hfew hline hs hplain)
end
theorem hu65 {A : Around} {k : Nat} (hr : Room k A) : A.units + 65 < cLine := by have := hr.un; omega
theorem hu80 {A : Around} {k : Nat} (hr : Room k A) : A.units + 80 < cLine := by have := hr.un; omega
end DL
namespace DL
open PySem PySem.Spec PyProof.Rows
theorem bt_abs : bootBuiltins "abs" = some (.builtin "abs") := by rfl
theorem bt_len : bootBuiltins "len" = some (.builtin "len") := by rfl
theorem bt_all : bootBuiltins "all" = some (.builtin "all") := by rfl
theorem bt_any : bootBuiltins "any" = some (.builtin "any") := by rfl
theorem bt_repr : bootBuiltins "repr" = some (.builtin "repr") := by rfl
theorem bt_int : bootBuiltins "int" = some (.type "int") := by rfl
theorem bt_bool : bootBuiltins "bool" = some (.type "bool") := by rfl
theorem bt_str : bootBuiltins "str" = some (.type "str") := by rfl
theorem bt_list : bootBuiltins "list" = some (.type "list") := by rfl
theorem bt_tuple : bootBuiltins "tuple" = some (.type "tuple") := by rfl
theorem bt_dict : bootBuiltins "dict" = some (.type "dict") := by rfl
end DL
namespace DL
open PySem PySem.Spec PyProof.Rows L2
theorem kwN {K : Fg} {x qual : Str} {params : Arguments} {body : List Stmt} {scope : Scope} {kws : List (Str × V)} {f : Addr} {fd : FuncData} {ps ks : List Str} {ix : List Nat} (F : FunD K x qual params body scope [] kws f fd)
    (h : ∀ (kV doc pm : Value) (an : Option Addr) (cdv ct : Value) (ws : List Value), ws.length = ks.length → bindArgs (PySem.W.fnOf x qual params body scope .none kV doc pm an cdv ct) ⟨[], ks.zip ws⟩ = pure (ps.zip (byIx ix ws))) : KwB K fd ps ks ix := by
  obtain ⟨oc, od, dV, kV, doc, pm, an, cdv, ct, osl, rfl, lk, hcd, hD, hK⟩ := F.ex
  rcases hD with ⟨_, rfl⟩ | ⟨e, _⟩
  · exact fun s ws _ hl => .of_eq (h kV doc pm an cdv ct ws hl)
  · exact absurd rfl e
end DL
/-! DL: lists that are made and owned; several names at once; op= more. -/
namespace DL
open PySem PySem.Spec PyProof.Rows L2
/-- a new list is owned -/
theorem Sim.newO {K : Fg} {ω : List Sh} {F G H : Hp} {ρ : Rho} {σ : L2.St} {p : Addr} {xs : List V} {ds : List D} (S : Sim K ω F G H ρ σ) (np : H p = none) (r : RDs K F xs ds) : Sim K (.lst .fz :: ω) F G (upd H p (.lst xs)) (some (.lst ds) :: ρ) (some (.ref p) :: σ) := by
  obtain ⟨⟨fp, o, n⟩, a, b, dj⟩ := S
  have fD : F p = none := a.none np
  have gD : G p = none := b.none np
  refine ⟨⟨[p] ++ fp, .bd (.lst upd_same (Owns.of_rds r) (fun z => by cases z)) (o.mono (Le.refl _) fun x m u e => by rw [upd_ne (ne_of_none e np)]; exact e) fun x m z => ?_, fun x m => ?_⟩, fun x u e => ?_, fun x u e => ?_, dj⟩
  · have : x = p := by simpa using m
    subst this
    obtain ⟨u, e⟩ := o.live x z
    rw [np] at e; cases e
  · rcases List.mem_append.mp m with m | m
    · have : x = p := by simpa using m
      subst this; exact ⟨fD, gD⟩
    · exact n x m
  · rw [upd_ne (ne_of_none e fD)]; exact a x u e
  · rw [upd_ne (ne_of_none e gD)]; exact b x u e
section
variable {X : Cx} {W : WX} {C : Sx} {ω : List Sh} {pos : Pos} {a b c e : Expr} {m m1 m2 m3 : M D} {sh : Sh}
/-- an answer of two frozen data, with the names' data at hand -/
theorem tbinS {g : D → D → Option D} {σ : L2.St} {H : Hp} {Q : VK} {sh : Sh} (h : tM X.K X.mg W ω sh (bin g m1 m2) σ H Q) :
    tM X.K X.mg W ω .fz m1 σ H fun x H1 => tM X.K X.mg W ω .fz m2 σ H1 fun y H2 => ∃ F G ρ d1 d2 r, g d1 d2 = some r ∧ Sim X.K ω F G H2 ρ σ ∧ RD X.K F x d1 ∧ RD X.K F y d2 ∧ ∀ z F' H', Le F F' → Sim X.K (sh :: ω) F' G H' (some r :: ρ) (some z :: σ) → Q z H' := by
  obtain ⟨F, q⟩ := tM_bind h
  refine ⟨F, tMF_mono q fun x H1 ⟨d1, F1, r1, q1⟩ => ?_⟩
  obtain ⟨G, ρ, S, q1⟩ := q1
  refine ⟨F1, G, ρ, S, Res.sat_mono (Res.sat_bind q1) (fun d2 ρ1 p v F2 H2 l S2 => ?_) fun _ _ z => z⟩
  obtain ⟨r2, S3⟩ := S2.top
  cases eg : g d1 d2 with
  | none => rw [eg] at p; exact p.elim
  | some r =>
    rw [eg] at p
    exact ⟨F2, G, ρ1, d1, d2, r, eg, S3, r1.mono l, r2, fun z F' H' l' S' => p z F' H' (l.trans l') S'⟩
def gCat : D → D → Option D
  | .lst xs, .lst ys => if xs.length + ys.length ≤ sizeLine then some (.lst (xs ++ ys)) else none
  | _, _ => none
theorem de_catO (ha : DE X W ω a .fz m1) (hb : DE X W ω b .fz m2) : DE X W ω (.BinOp a .Add b pos) (.lst .fz) (bin gCat m1 m2) := by
  refine ⟨fun pins s σ H Q I h => ?_⟩
  refine wpAny_BinOp (binT ha hb I (tbinS h) fun v u s2 x y H2 I2 rx ry q => ?_)
  obtain ⟨F, G, ρ, d1, d2, r, e, S, r1, r2, k⟩ := q
  unfold gCat at e
  split at e
  · split at e
    · rename_i hl
      cases e
      cases r1 with
      | lst h1 s1 =>
        cases r2 with
        | lst h2 s2' =>
          exact op_cat pins s2 σ H2 _ _ v u Q I2 rx ry ⟨_, _, _, _, rfl, rfl, S.fH _ _ h1, S.fH _ _ h2, by rw [s1.length, s2'.length]; exact hl, fun p np => k _ F _ (Le.refl _) (S.newO np (s1.append s2'))⟩
    · cases e
  · cases e
def gRep : D → D → Option D
  | .lst xs, .int k => if -(2 ^ 63) ≤ k ∧ k < 2 ^ 63 ∧ xs.length * k.toNat ≤ sizeLine then some (.lst (List.replicate k.toNat xs).flatten) else none
  | _, _ => none
theorem de_repO (ha : DE X W ω a .fz m1) (hb : DE X W ω b .fz m2) : DE X W ω (.BinOp a .Mult b pos) (.lst .fz) (bin gRep m1 m2) := by
  refine ⟨fun pins s σ H Q I h => ?_⟩
  refine wpAny_BinOp (binT ha hb I (tbinS h) fun v u s2 x y H2 I2 rx ry q => ?_)
  obtain ⟨F, G, ρ, d1, d2, r, e, S, r1, r2, k⟩ := q
  unfold gRep at e
  split at e
  · split at e
    · rename_i hl
      cases e
      cases r2
      cases r1 with
      | lst h1 s1 =>
        exact op_rep pins s2 σ H2 _ _ v u Q I2 rx ry ⟨_, _, _, rfl, rfl, S.fH _ _ h1, hl.1, hl.2.1, by rw [s1.length]; exact hl.2.2, fun p np => k _ F _ (Le.refl _) (S.newO np (s1.rep _))⟩
    · cases e
  · cases e
/-- list(x) -/
theorem de_listO {es : List Expr} {ms : M (List D)} {x : Str} {p : Pos} (hm : X.mg x = none) (hv : bootBuiltins x = some (.type "list")) (ha : DA X W ω (e :: es) ms) (hg : Gl X x := by rfl)
    (hn : x ≠ "__name__" := by decide) (hdb : (x == ("__debug__" : Str)) = false := by decide) (he : starEach (e :: es) X.env = (false, eval e X.env) :: starEach es X.env := by rfl) (hpl : (backTo pos (starEach es X.env)).any (·.1) = false := by rfl) :
    DE X W ω (.Call (.Name x p) (e :: es) [] pos) (.lst .fz) (appM gList ms) := by
  refine ⟨fun pins s σ H Q I h => ?_⟩
  refine wpAny_Call_Name_kw (ld_blt I hg hm hv ?_ hn hdb)
  obtain ⟨F, G, ρ, S, h⟩ := h
  have want : tA X.K X.mg W ω ms σ H fun xs H1 => ∃ p ys, xs = [.ref p] ∧ (SqL X.K H1 p ys ∨ SqT X.K H1 p ys) ∧ ∀ l, H1 l = none → Q (.ref l) (upd H1 l (.lst ys)) := by
    refine ⟨F, G, ρ, S, Res.sat_mono (Res.sat_bind h) (fun ds ρ1 q vs F1 H1 l S1 rs => ?_) fun _ _ z => z⟩
    unfold gList at q
    split at q
    · cases rs with | cons r rs => cases rs; cases r with | lst h s => exact ⟨_, _, rfl, .inl (SqL.of (S1.fH _ _ h)), fun p np => q _ F1 _ l (S1.newO np s)⟩
    · cases rs with | cons r rs => cases rs; cases r with | tup h s => exact ⟨_, _, rfl, .inr (SqT.mono S1.fH h), fun p np => q _ F1 _ l (S1.newO np s)⟩
    · cases rs with | cons r rs => cases rs; cases r with | scr h s => exact ⟨_, _, rfl, .inl (SqL.mono S1.fH h), fun p np => q _ F1 _ l (S1.newO np s)⟩
    · exact q.elim
  exact PyProof.Rows.callWith_type1 (thn (ha.run pos pins s σ H _ I want) fun us s1 ⟨vs, H1, I1, r1, q1⟩ => call_list_of pins s1 σ H1 vs us Q I1 r1 q1) he hpl
/-- xs[lo:hi], a new list -/
def slcLD (d : D) (lo hi : Option Int) : Option D := match d with
  | .lst xs => some (.lst (cutD xs lo hi))
  | .scr xs => some (.lst (cutD xs lo hi))
  | _ => none
def slcLM (m : M D) (lo hi : MO) : M D := bindM m fun d => bindM lo fun l => bindM hi fun h => liftO (slcLD d l h)
theorem de_sliceO {p2 : Pos} {lo hi : Option Expr} {ml mh : MO} (ha : DE X W ω a .fz m) (hl : DO X W ω lo ml) (hh : DO X W ω hi mh) : DE X W ω (.Subscript a (.Slice lo hi none p2) pos) (.lst .fz) (slcLM m ml mh) :=
  PE.imp (pe_slice sl_list ha hl hh) fun σ H Q ⟨F, G, ρ, S, q⟩ => by
    refine ⟨F, G, ρ, S, Res.sat_mono (Res.sat_bind q) (fun d ρ1 q1 v F1 H1 l1 S1 => ?_) fun _ _ z => z⟩
    obtain ⟨r, S2⟩ := S1.top
    refine ⟨F1, G, ρ1, S2, Res.sat_mono (Res.sat_bind q1) (fun o ρ2 q2 F2 H2 l2 S3 => ?_) fun _ _ z => z.le l1⟩
    refine ⟨F2, G, ρ2, S3, Res.sat_mono (Res.sat_bind q2) (fun o2 ρ3 q3 F3 H3 l3 S4 => ?_) fun _ _ z => z.le (l1.trans l2)⟩
    have r3 := r.mono (l2.trans l3)
    have l13 := l1.trans (l2.trans l3)
    unfold slcLD at q3
    cases r3 with
    | lst h s => exact ⟨_, _, rfl, SqL.of (S4.fH _ _ h), fun p np => q3 _ F3 _ l13 (S4.newO np (s.cut o o2))⟩
    | scr h s => exact ⟨_, _, rfl, SqL.mono S4.fH h, fun p np => q3 _ F3 _ l13 (S4.newO np (s.cut o o2))⟩
    | _ => exact q3.elim
/-- a, b = x, y of any shapes -/
theorem ds_parO2 {i j : Nat} {x y : Str} {s1 s2 : Sh} {px py pt : Pos} {kt k2 pt2} (wk : Wk ω C.ωe) (hc : X.calm = true) (hN : X.N.Nodup) (ha : DE X C.W ω a s1 m1) (hb : DE X C.W ω b s2 m2) (ni : X.N[i]? = some x := by rfl) (nj : X.N[j]? = some y := by rfl) (hij : i ≠ j := by decide)
    (hx : X.env.scope.names.lookup x = some .local := by rfl) (hy : X.env.scope.names.lookup y = some .local := by rfl)
    (e1 : starEach [a, b] X.env = (false, eval a X.env) :: starEach [b] X.env := by rfl) (e2 : starEach [b] X.env = (false, eval b X.env) :: starEach [] X.env := by rfl)
    (hw : swappedStores [.Tuple [.Name x px, .Name y py] kt pt] (.Tuple [a, b] k2 pt2) X.env = pure (some [x, y]) := by rfl)
    (hs : swapsWithSole [.Tuple [.Name x px, .Name y py] kt pt] (.Tuple [a, b] k2 pt2) pos.line X.env = pure false := by rfl) :
    DS X C ω (.Assign [.Tuple [.Name x px, .Name y py] kt pt] (.Tuple [a, b] k2 pt2) pos) ((ω.set i s1).set j s2) (parM i j (consM m1 (consM m2 nilM))) :=
  PS.imp (ps_par hc hN ni nj hij hx hy (pa_cons ha (pa_cons hb pa_nil e2) e1) hw hs) fun D σ H ⟨F, G, ρ, S, q⟩ => by
    have q := Res.sat_bind (Res.sat_bind q)
    refine ⟨F, G, ρ, S, Res.sat_mono q (fun d1 ρ1 p v F1 H1 l1 S1 => ?_) fun _ _ z => z.zx wk⟩
    obtain ⟨G', S2, back⟩ := S1.hide
    have p := Res.sat_bind (Res.sat_bind p)
    refine ⟨F1, G', ρ1, S2, Res.sat_mono p (fun d2 ρ2 p2 u F2 H2 l2 S3 => ?_) fun e ρ' z => ?_⟩
    · have S4 := back l2 S3
      have p2 := Res.sat_bind p2
      refine ⟨_, _, rfl, p2 _ F2 H2 (l1.trans l2) ?_⟩
      exact (S4.set (i + 1)).set j
    · refine fun F' H' cls dx l' S' x' => ?_
      have z' := z.zx (ω := ω) (σ := σ) wk
      exact z' F' H' cls dx (l1.trans l') (back l' S').pop x'
/-- a, b, c = x, y, z of any shapes -/
theorem ds_parO3 {i j l : Nat} {x y z : Str} {s1 s2 s3 : Sh} {px py pz pt : Pos} {kt k2 pt2} (wk : Wk ω C.ωe) (hc : X.calm = true) (hN : X.N.Nodup) (ha : DE X C.W ω a s1 m1) (hb : DE X C.W ω b s2 m2) (hcc : DE X C.W ω c s3 m3) (ni : X.N[i]? = some x := by rfl) (nj : X.N[j]? = some y := by rfl) (nl : X.N[l]? = some z := by rfl) (hij : i ≠ j := by decide) (hil : i ≠ l := by decide) (hjl : j ≠ l := by decide)
    (hx : X.env.scope.names.lookup x = some .local := by rfl) (hy : X.env.scope.names.lookup y = some .local := by rfl) (hz : X.env.scope.names.lookup z = some .local := by rfl)
    (e1 : starEach [a, b, c] X.env = (false, eval a X.env) :: starEach [b, c] X.env := by rfl) (e2 : starEach [b, c] X.env = (false, eval b X.env) :: starEach [c] X.env := by rfl) (e3 : starEach [c] X.env = (false, eval c X.env) :: starEach [] X.env := by rfl)
    (hw : swappedStores [.Tuple [.Name x px, .Name y py, .Name z pz] kt pt] (.Tuple [a, b, c] k2 pt2) X.env = pure (some [x, y, z]) := by rfl)
    (hs : swapsWithSole [.Tuple [.Name x px, .Name y py, .Name z pz] kt pt] (.Tuple [a, b, c] k2 pt2) pos.line X.env = pure false := by rfl) :
    DS X C ω (.Assign [.Tuple [.Name x px, .Name y py, .Name z pz] kt pt] (.Tuple [a, b, c] k2 pt2) pos) (((ω.set i s1).set j s2).set l s3) (parM3 i j l (consM m1 (consM m2 (consM m3 nilM)))) :=
  PS.imp (ps_par3 hc hN ni nj nl hij hil hjl hx hy hz (pa_cons ha (pa_cons hb (pa_cons hcc pa_nil e3) e2) e1) hw hs) fun D σ H ⟨F, G, ρ, S, q⟩ => by
    have q := Res.sat_bind (Res.sat_bind q)
    refine ⟨F, G, ρ, S, Res.sat_mono q (fun d1 ρ1 p v F1 H1 l1 S1 => ?_) fun _ _ z => z.zx wk⟩
    obtain ⟨G', S2, back⟩ := S1.hide
    have p := Res.sat_bind (Res.sat_bind p)
    refine ⟨F1, G', ρ1, S2, Res.sat_mono p (fun d2 ρ2 p2 u F2 H2 l2 S3 => ?_) fun e ρ' z => ?_⟩
    · obtain ⟨G2, S4, back2⟩ := S3.hide
      have p2 := Res.sat_bind (Res.sat_bind p2)
      refine ⟨F2, G2, ρ2, S4, Res.sat_mono p2 (fun d3 ρ3 p3 w F3 H3 l3 S5 => ?_) fun e ρ' z => ?_⟩
      · have S6 := back (l2.trans l3) (back2 l3 S5)
        have p3 := Res.sat_bind p3
        refine ⟨_, _, _, rfl, p3 _ F3 H3 (l1.trans (l2.trans l3)) ?_⟩
        exact ((S6.set (i + 2)).set (j + 1)).set l
      · refine fun F' H' cls dx l' S' x' => ?_
        have z' := z.zx (ω := ω) (σ := σ) wk
        exact z' F' H' cls dx (l1.trans (l2.trans l')) (back (l2.trans l') (back2 l' S')).pop.pop x'
    · refine fun F' H' cls dx l' S' x' => ?_
      have z' := z.zx (ω := ω) (σ := σ) wk
      exact z' F' H' cls dx (l1.trans l') (back l' S').pop x'
/-! ### op= more -/
def gPosDiv : D → D → Option D
  | .int i, .int j => if 0 < j ∧ j.natAbs < 18446744073709551616 then some (.int (i / j)) else none
  | _, _ => none
theorem od_idiv : OpD X (inplaceOp .FloorDiv) gPosDiv := opd_int iop_fdivW fun d1 d2 r e => by
  unfold gPosDiv at e
  split at e
  · split at e
    · rename_i h; cases e; exact ⟨_, _, rfl, rfl, wide_div (b := 64) h.1 (by omega) (by decide) (by decide), rfl⟩
    · cases e
  · cases e
def gPosMod : D → D → Option D
  | .int i, .int j => if 0 < j then some (.int (i % j)) else none
  | _, _ => none
theorem od_imod : OpD X (inplaceOp .Mod) gPosMod := opd_int iop_mod fun d1 d2 r e => by
  unfold gPosMod at e
  split at e
  · split at e
    · rename_i h; cases e; exact ⟨_, _, rfl, rfl, h, rfl⟩
    · cases e
  · cases e
def gMulI : D → D → Option D
  | .int i, .int j => if mulOk i j then some (.int (i * j)) else none
  | _, _ => none
theorem od_imul : OpD X (inplaceOp .Mult) gMulI := opd_int iop_mul fun d1 d2 r e => by
  unfold gMulI at e
  split at e
  · split at e
    · rename_i h
      cases e
      refine ⟨_, _, rfl, rfl, ?_, rfl⟩
      unfold mulOk at h
      rw [Bool.or_eq_true] at h
      rcases h with h | h
      · exact .inl (lt64 (of_decide_eq_true h))
      · exact .inr (lt64 (of_decide_eq_true h))
    · cases e
  · cases e
end
end DL
namespace DL
section
variable {m m1 m2 m3 : M D} {ms : M (List D)} {t k : M Bool}
theorem pur_nil : Pur nilM := pur_pure
theorem pur_bin {g : D → D → Option D} (h : Pur m1) (h2 : Pur m2) : Pur (bin g m1 m2) := pur_bind h fun _ => pur_bind h2 fun _ => pur_lift
theorem pur_un {g : D → Option D} (h : Pur m) : Pur (un1 g m) := pur_bind h fun _ => pur_lift
theorem pur_app {g : List D → Option D} (h : Pur ms) : Pur (appM g ms) := pur_bind h fun _ => pur_lift
theorem pur_cons (h : Pur m) (h2 : Pur ms) : Pur (consM m ms) := pur_bind h fun _ => pur_bind h2 fun _ => pur_pure
theorem pur_tru (h : Pur m) : Pur (truM m) := pur_bind h fun _ => pur_lift
theorem pur_notT (h : Pur t) : Pur (notT t) := pur_bind h fun _ => pur_pure
theorem pur_notM (h : Pur m) : Pur (notM m) := pur_bind h fun _ => pur_lift
theorem pur_andT (h : Pur t) (h2 : Pur k) : Pur (andT t k) := pur_bind h fun _ => pur_ite h2 pur_pure
theorem pur_orT (h : Pur t) (h2 : Pur k) : Pur (orT t k) := pur_bind h fun _ => pur_ite pur_pure h2
theorem pur_chk {i : Nat} : Pur (chkM i) := fun ρ => by
  unfold chkM
  generalize ρ[i]? = z
  cases z with
  | none => trivial
  | some z =>
    cases z with
    | none => trivial
    | some d => cases d <;> first | trivial | rfl
theorem pur_atO {i : Nat} {d : D} : Pur (atO i d) := fun ρ => by
  unfold atO
  generalize ρ[i]? = z
  cases z with
  | none => trivial
  | some z =>
    cases z with
    | none => trivial
    | some x =>
      cases x with
      | lst xs =>
        cases d with
        | int j =>
          dsimp only
          cases L2.atI xs j with
          | none => trivial
          | some y => rfl
        | _ => trivial
      | _ => trivial
theorem pur_ixo {i : Nat} (h : Pur m) : Pur (ixoM i m) := pur_bind pur_chk fun _ => pur_bind h fun _ => pur_atO
theorem pur_noO : Pur noO := pur_pure
theorem pur_someO (h : Pur m) : Pur (someO m) := pur_bind h fun _ => pur_lift
theorem pur_slc {lo hi : MO} (h : Pur m) (h2 : Pur lo) (h3 : Pur hi) : Pur (slcM m lo hi) := pur_bind h fun _ => pur_bind h2 fun _ => pur_bind h3 fun _ => pur_lift
theorem pur_if {α : Type} {x y : M α} (h : Pur t) (h2 : Pur x) (h3 : Pur y) : Pur (ifM t x y) := pur_bind h fun _ => pur_ite h2 h3
end
end DL
/-! DL: what the worth is, step by step: rewriting rules. -/
namespace DL
open PySem
variable {α β : Type} {ρ ρ1 : Rho} {m m1 m2 m3 : M D} {ms : M (List D)} {d : D} {i j : Int}
@[simp] theorem s_bind {m : M α} {f : α → M β} : bindM m f ρ = (match m ρ with | .ok a ρ1 => f a ρ1 | .exc e ρ1 => .exc e ρ1 | .no => .no) := rfl
@[simp] theorem s_pure {a : α} : pureM a ρ = .ok a ρ := rfl
@[simp] theorem s_fail : (failM : M α) ρ = .no := rfl
@[simp] theorem s_get {i : Nat} : getV i ρ = (match ρ[i]? with | some (some d) => .ok d ρ | _ => .no) := rfl
@[simp] theorem s_lift {a : α} : liftO (some a) ρ = .ok a ρ := rfl
@[simp] theorem s_liftN : liftO (none : Option α) ρ = .no := rfl
@[simp] theorem s_liftI {c : Prop} [Decidable c] {x y : Option α} : liftO (if c then x else y) ρ = if c then liftO x ρ else liftO y ρ := by split <;> rfl
@[simp] theorem s_bin {g : D → D → Option D} : bin g m1 m2 ρ = (bindM m1 fun x => bindM m2 fun y => liftO (g x y)) ρ := rfl
@[simp] theorem s_un {g : D → Option D} : un1 g m1 ρ = (bindM m1 fun x => liftO (g x)) ρ := rfl
@[simp] theorem s_app {g : List D → Option D} : appM g ms ρ = (bindM ms fun ds => liftO (g ds)) ρ := rfl
@[simp] theorem s_cons : consM m ms ρ = (bindM m fun d => bindM ms fun ds => pureM (d :: ds)) ρ := rfl
@[simp] theorem s_nil : nilM ρ = .ok [] ρ := rfl
@[simp] theorem s_if {c : M Bool} {t e : M α} : ifM c t e ρ = (bindM c fun b => if b = true then t else e) ρ := rfl
@[simp] theorem s_seq {m k : M Fl} : seqM m k ρ = (match m ρ with | .ok .nx ρ1 => k ρ1 | r => r) := rfl
@[simp] theorem s_next : nextM ρ = .ok .nx ρ := rfl
@[simp] theorem s_tru : truM m ρ = (bindM m fun d => liftO (truD d)) ρ := rfl
@[simp] theorem s_notT {m : M Bool} : notT m ρ = (bindM m fun b => pureM (!b)) ρ := rfl
@[simp] theorem s_notM : notM m ρ = (bindM m fun d => liftO ((truD d).map fun k => .bl !k)) ρ := rfl
@[simp] theorem s_andT {m k : M Bool} : andT m k ρ = (bindM m fun b => if b = true then k else pureM false) ρ := rfl
@[simp] theorem s_orT {m k : M Bool} : orT m k ρ = (bindM m fun b => if b = true then pureM true else k) ρ := rfl
@[simp] theorem s_andM {k : M D} : andM m k ρ = (bindM m fun d => bindM (liftO (truD d)) fun t => if t = true then k else pureM d) ρ := rfl
@[simp] theorem s_orM {k : M D} : orM m k ρ = (bindM m fun d => bindM (liftO (truD d)) fun t => if t = true then pureM d else k) ρ := rfl
@[simp] theorem s_set {i : Nat} : setM i m ρ = (bindM m fun d ρ => .ok .nx (ρ.set i (some d))) ρ := rfl
@[simp] theorem s_ret : retM m ρ = (bindM m fun d => pureM (.rt d)) ρ := rfl
@[simp] theorem s_drop : dropM m ρ = (bindM m fun _ => nextM) ρ := rfl
@[simp] theorem s_asg {t : Tg} : asgM t m ρ = (bindM m fun d ρ => (match t d ρ with | some ρ1 => .ok .nx ρ1 | none => .no)) ρ := rfl
@[simp] theorem s_par {i j : Nat} : parM i j ms ρ = (bindM ms fun ds ρ => (match ds with | [x, y] => .ok .nx ((ρ.set i (some x)).set j (some y)) | _ => .no)) ρ := rfl
@[simp] theorem s_par3 {i j l : Nat} : parM3 i j l ms ρ = (bindM ms fun ds ρ => (match ds with | [x, y, z] => .ok .nx (((ρ.set i (some x)).set j (some y)).set l (some z)) | _ => .no)) ρ := rfl
@[simp] theorem s_aug {i : Nat} {g : D → D → Option D} : augM i g m ρ = (bindM (getV i) fun x => bindM m fun y => bindM (liftO (g x y)) fun z ρ => .ok .nx (ρ.set i (some z))) ρ := rfl
@[simp] theorem s_gset {i : Nat} : gSet i d ρ = some (ρ.set i (some d)) := rfl
@[simp] theorem s_gnil : gsNil [] ρ = some ρ := rfl
@[simp] theorem s_gcons {t : Tg} {ts : Tgs} {ds : List D} : gsCons t ts (d :: ds) ρ = (t d ρ).bind fun ρ1 => ts ds ρ1 := rfl
@[simp] theorem s_gunp {n : Nat} {ts : Tgs} {ds : List D} : gUnp n ts (.tup ds) ρ = if ds.length = n then ts ds ρ else none := rfl
@[simp] theorem s_chk {i : Nat} : chkM i ρ = (match ρ[i]? with | some (some (.lst xs)) => .ok .non ρ | _ => .no) := rfl
@[simp] theorem s_ixo {i : Nat} : ixoM i m ρ = (bindM (chkM i) fun _ => bindM m (atO i)) ρ := rfl
@[simp] theorem s_atO {i : Nat} {j : Int} : atO i (.int j) ρ = (match ρ[i]? with | some (some (.lst xs)) => (match L2.atI xs j with | some d => .ok d ρ | none => .no) | _ => .no) := rfl
@[simp] theorem s_setIx {i : Nat} {mk : M D} : setIxM i m mk ρ = (bindM m fun d => bindM (chkM i) fun _ => bindM mk fun k => updM i (putAt k d)) ρ := rfl
@[simp] theorem s_upd {i : Nat} {g : List D → Option (List D)} : updM i g ρ = (match ρ[i]? with | some (some (.lst xs)) => (match g xs with | some ys => .ok .nx (ρ.set i (some (.lst ys))) | none => .no) | _ => .no) := rfl
@[simp] theorem s_putAt {xs : List D} : putAt (.int j) d xs = (L2.ixN xs.length j).map fun n => xs.set n d := rfl
@[simp] theorem s_app' {i : Nat} : appM' i m ρ = (bindM (chkM i) fun _ => bindM m fun d => updM i (appO d)) ρ := rfl
@[simp] theorem s_for {t : Tg} {b : M Fl} : forS ms t b ρ = (bindM ms fun ds => DL.forM t b ds) ρ := rfl
@[simp] theorem s_ofArgs {g : List D → Option (List D)} : ofArgs g ms ρ = (bindM ms fun ds => liftO (g ds)) ρ := rfl
@[simp] theorem s_seqOf : seqOf m ρ = (bindM m fun d => liftO (seqD d)) ρ := rfl
@[simp] theorem s_yes : yesM ρ = .ok true ρ := rfl
@[simp] theorem s_noO : noO ρ = .ok none ρ := rfl
@[simp] theorem s_someO : someO m ρ = (bindM m fun d => liftO (intD d)) ρ := rfl
@[simp] theorem s_intD : intD (.int i) = some (some i) := rfl
@[simp] theorem s_slc {lo hi : MO} : slcM m lo hi ρ = (bindM m fun d => bindM lo fun l => bindM hi fun h => liftO (slcD d l h)) ρ := rfl
@[simp] theorem s_chain {g g' : D → D → Option D} : chainM g g' m1 m2 m3 ρ = (bindM m1 fun x => bindM m2 fun y => bindM (liftO (g x y)) fun t => (match t with | .bl true => bindM m3 fun z => liftO (g' y z) | .bl false => pureM (.bl false) | _ => failM)) ρ := rfl
@[simp] theorem s_met {T : String} {g : D → List D → Option D} : metM' T g m ms ρ = (bindM m fun d => if tyD T d = true then bindM ms fun ds => liftO (g d ds) else failM) ρ := rfl
@[simp] theorem s_call {np : Nat} {dds : List D} {g : List D → Res D} : callM np dds g ms ρ = (bindM ms fun ds => if (ds ++ dds).length = np then ofRes (g (ds ++ dds)) else failM) ρ := rfl
@[simp] theorem s_ofOk {σ : Rho} : ofRes (.ok d σ) ρ = .ok d ρ := rfl
@[simp] theorem s_callP {np i : Nat} {dds : List D} {g : List D → Res D} : callP np dds g i ms ρ = (bindM (chkM i) fun _ => bindM ms fun ds ρ => (match ρ[i]? with
  | some (some (.lst xs)) => if (ds ++ dds).length = np then (match g (.lst xs :: (ds ++ dds)) with
    | .ok d [some y] => .ok d (ρ.set i (some y))
    | _ => .no) else .no
  | _ => .no)) ρ := rfl
@[simp] theorem s_runB {n : Nat} {shs : List Sh} {thru : Bool} {b : M Fl} {ds : List D} : runB n shs thru b ds = (match b (ds.map some ++ List.replicate (n - ds.length) none) with
  | .ok (.rt d) ρ => .ok d (keep shs ρ)
  | .ok .nx ρ => if thru = true then .ok .non (keep shs ρ) else .no
  | .exc e _ => .exc e []
  | _ => .no) := rfl
@[simp] theorem s_keep0 : keep [] ρ = [] := rfl
@[simp] theorem s_keepP {x : Option D} : keep [.lst .fz] (x :: ρ) = [x] := rfl
@[simp] theorem s_byIx {ix : List Nat} {xs : List D} : byIx ix xs = ix.filterMap fun i => xs[i]? := rfl
/-! operators -/
@[simp] theorem s_gInt {p : Int → Int → Bool} : gInt p (.int i) (.int j) = some (.bl (p i j)) := rfl
@[simp] theorem s_addI : gAdd (.int i) (.int j) = some (.int (i + j)) := rfl
@[simp] theorem s_addL {xs ys : List D} : gAdd (.lst xs) (.lst ys) = if xs.length + ys.length ≤ sizeLine then some (.lst (xs ++ ys)) else none := rfl
@[simp] theorem s_addT {xs ys : List D} : gAdd (.tup xs) (.tup ys) = if xs.length + ys.length ≤ sizeLine then some (.tup (xs ++ ys)) else none := rfl
@[simp] theorem s_addS {x y : Str} : gAdd (.str x) (.str y) = if x.length + y.length ≤ sizeLine then some (.str (x ++ y)) else none := rfl
@[simp] theorem s_iaddI : gAddI (.int i) (.int j) = some (.int (i + j)) := rfl
@[simp] theorem s_subI : gSubI (.int i) (.int j) = some (.int (i - j)) := rfl
@[simp] theorem s_mulI : gMul (.int i) (.int j) = if mulOk i j then some (.int (i * j)) else none := rfl
@[simp] theorem s_modI : gMod (.int i) (.int j) = if j ≠ 0 then some (.int (i.fmod j)) else none := rfl
@[simp] theorem s_divI : gDivW (.int i) (.int j) = if divOk j then some (.int (i.fdiv j)) else none := rfl
@[simp] theorem s_powI : gPow (.int i) (.int j) = if 0 ≤ j ∧ j ≤ 1000000 ∧ i.natAbs < 2 ^ 64 then some (.int (i ^ j.toNat)) else none := rfl
@[simp] theorem s_neg : gNeg (.int i) = some (.int (-i)) := rfl
@[simp] theorem s_truI : truD (.int i) = some (i != 0) := rfl
@[simp] theorem s_truB {b : Bool} : truD (.bl b) = some b := rfl
@[simp] theorem s_truN : truD .non = some false := rfl
@[simp] theorem s_truL {xs : List D} : truD (.lst xs) = some (!xs.isEmpty) := rfl
@[simp] theorem s_truT {xs : List D} : truD (.tup xs) = some (!xs.isEmpty) := rfl
@[simp] theorem s_ixL {xs : List D} : gIx (.lst xs) (.int i) = L2.atI xs i := rfl
@[simp] theorem s_ixT {xs : List D} : gIx (.tup xs) (.int i) = L2.atI xs i := rfl
@[simp] theorem s_tup {ds : List D} : DL.gTup ds = if ds.length ≤ sizeLine then some (.tup ds) else none := rfl
@[simp] theorem s_lst {ds : List D} : DL.gLst ds = if ds.length ≤ sizeLine then some (.lst ds) else none := rfl
@[simp] theorem s_seqL {xs : List D} : seqD (.lst xs) = some xs := rfl
@[simp] theorem s_seqT {xs : List D} : seqD (.tup xs) = some xs := rfl
@[simp] theorem s_seqC {xs : List D} : seqD (.scr xs) = some xs := rfl
@[simp] theorem s_intI : gIntC [.int i] = some (.int i) := rfl
@[simp] theorem s_intB {b : Bool} : gIntC [.bl b] = some (.int (if b then 1 else 0)) := rfl
@[simp] theorem s_abs : gAbs [.int i] = some (.int (if i < 0 then -i else i)) := rfl
@[simp] theorem s_lenL {xs : List D} : DL.gLen [.lst xs] = some (.int xs.length) := rfl
@[simp] theorem s_lenT {xs : List D} : DL.gLen [.tup xs] = some (.int xs.length) := rfl
@[simp] theorem s_lenC {xs : List D} : DL.gLen [.scr xs] = some (.int xs.length) := rfl
@[simp] theorem s_all {xs : List D} : gAll [.lst xs] = (blsD xs).map fun bs => .bl (bs.all id) := rfl
@[simp] theorem s_any {xs : List D} : gAny [.lst xs] = (blsD xs).map fun bs => .bl (bs.any id) := rfl
@[simp] theorem s_bls0 : blsD [] = some [] := rfl
@[simp] theorem s_bls1 {b : Bool} {xs : List D} : blsD (.bl b :: xs) = (blsD xs).map (b :: ·) := rfl
@[simp] theorem s_slT {xs : List D} {lo hi : Option Int} : slcD (.tup xs) lo hi = some (.tup (cutD xs lo hi)) := rfl
@[simp] theorem s_slL {xs : List D} {lo hi : Option Int} : slcD (.lst xs) lo hi = some (.lst (cutD xs lo hi)) := rfl
@[simp] theorem s_slC {xs : List D} {lo hi : Option Int} : slcD (.scr xs) lo hi = some (.lst (cutD xs lo hi)) := rfl
@[simp] theorem s_lcM {vs : List Nat} {mi : M (List D)} {t : Tg} {tt : M Bool} {te : M D} : lcM vs mi t tt te ρ = (bindM mi fun ds ρ =>
  if ds.length ≤ sizeLine then (match lcL vs t tt te ds (wipeR ρ vs) with
    | .ok ys ρ' => .ok (.lst ys) (restR ρ ρ' vs)
    | _ => .no) else .no) ρ := rfl
@[simp] theorem s_lc0 {vs : List Nat} {t : Tg} {tt : M Bool} {te : M D} : lcL vs t tt te [] ρ = .ok [] ρ := rfl
@[simp] theorem s_lc1 {vs : List Nat} {t : Tg} {tt : M Bool} {te : M D} {ds : List D} : lcL vs t tt te (d :: ds) ρ = (match t d ρ with
  | none => .no
  | some ρ1 => match tt ρ1 with
    | .ok true ρ2 => (match te ρ2 with
      | .ok y ρ3 => (match lcL vs t tt te ds (wipeR ρ3 vs) with
        | .ok ys ρ4 => .ok (y :: ys) ρ4
        | _ => .no)
      | _ => .no)
    | .ok false ρ2 => lcL vs t tt te ds (wipeR ρ2 vs)
    | _ => .no) := rfl
@[simp] theorem s_wipe0 : wipeR ρ [] = ρ := rfl
@[simp] theorem s_wipe1 {v : Nat} {vs : List Nat} : wipeR ρ (v :: vs) = (wipeR ρ vs).set v none := rfl
@[simp] theorem s_rest0 {ρ0 : Rho} : restR ρ0 ρ [] = ρ := rfl
@[simp] theorem s_rest1 {ρ0 : Rho} {v : Nat} {vs : List Nat} : restR ρ0 ρ (v :: vs) = (restR ρ0 ρ vs).set v (ρ0.getD v none) := rfl
@[simp] theorem s_forN {t : Tg} {b : M Fl} : DL.forM t b [] ρ = .ok .nx ρ := rfl
@[simp] theorem s_forC {t : Tg} {b : M Fl} {ds : List D} : DL.forM t b (d :: ds) ρ = (match t d ρ with
  | none => .no
  | some ρ1 => match b ρ1 with
    | .ok .nx ρ2 => DL.forM t b ds ρ2
    | .ok .ct ρ2 => DL.forM t b ds ρ2
    | .ok .bk ρ2 => .ok .nx ρ2
    | r => r) := rfl
@[simp] theorem s_isi_int_int : isiD "int" (.int i) = some (.bl true) := by rfl
@[simp] theorem s_isi_int_bl {b : Bool} : isiD "int" (.bl b) = some (.bl true) := by rfl
@[simp] theorem s_isi_int_str {x : Str} : isiD "int" (.str x) = some (.bl false) := by rfl
@[simp] theorem s_isi_int_tup {xs : List D} : isiD "int" (.tup xs) = some (.bl false) := by rfl
@[simp] theorem s_isi_int_lst {xs : List D} : isiD "int" (.lst xs) = some (.bl false) := by rfl
@[simp] theorem s_isi_int_non : isiD "int" (.non) = some (.bl false) := by rfl
@[simp] theorem s_isi_bool_int : isiD "bool" (.int i) = some (.bl false) := by rfl
@[simp] theorem s_isi_bool_bl {b : Bool} : isiD "bool" (.bl b) = some (.bl true) := by rfl
@[simp] theorem s_isi_bool_str {x : Str} : isiD "bool" (.str x) = some (.bl false) := by rfl
@[simp] theorem s_isi_bool_tup {xs : List D} : isiD "bool" (.tup xs) = some (.bl false) := by rfl
@[simp] theorem s_isi_bool_lst {xs : List D} : isiD "bool" (.lst xs) = some (.bl false) := by rfl
@[simp] theorem s_isi_bool_non : isiD "bool" (.non) = some (.bl false) := by rfl
@[simp] theorem s_isi_tuple_int : isiD "tuple" (.int i) = some (.bl false) := by rfl
@[simp] theorem s_isi_tuple_bl {b : Bool} : isiD "tuple" (.bl b) = some (.bl false) := by rfl
@[simp] theorem s_isi_tuple_str {x : Str} : isiD "tuple" (.str x) = some (.bl false) := by rfl
@[simp] theorem s_isi_tuple_tup {xs : List D} : isiD "tuple" (.tup xs) = some (.bl true) := by rfl
@[simp] theorem s_isi_tuple_lst {xs : List D} : isiD "tuple" (.lst xs) = some (.bl false) := by rfl
@[simp] theorem s_isi_tuple_non : isiD "tuple" (.non) = some (.bl false) := by rfl
@[simp] theorem s_isi_list_int : isiD "list" (.int i) = some (.bl false) := by rfl
@[simp] theorem s_isi_list_bl {b : Bool} : isiD "list" (.bl b) = some (.bl false) := by rfl
@[simp] theorem s_isi_list_str {x : Str} : isiD "list" (.str x) = some (.bl false) := by rfl
@[simp] theorem s_isi_list_tup {xs : List D} : isiD "list" (.tup xs) = some (.bl false) := by rfl
@[simp] theorem s_isi_list_lst {xs : List D} : isiD "list" (.lst xs) = some (.bl true) := by rfl
@[simp] theorem s_isi_list_non : isiD "list" (.non) = some (.bl false) := by rfl
@[simp] theorem s_isi_str_int : isiD "str" (.int i) = some (.bl false) := by rfl
@[simp] theorem s_isi_str_bl {b : Bool} : isiD "str" (.bl b) = some (.bl false) := by rfl
@[simp] theorem s_isi_str_str {x : Str} : isiD "str" (.str x) = some (.bl true) := by rfl
@[simp] theorem s_isi_str_tup {xs : List D} : isiD "str" (.tup xs) = some (.bl false) := by rfl
@[simp] theorem s_isi_str_lst {xs : List D} : isiD "str" (.lst xs) = some (.bl false) := by rfl
@[simp] theorem s_isi_str_non : isiD "str" (.non) = some (.bl false) := by rfl
theorem sz {n : Nat} (h : n ≤ 1000000) : n ≤ sizeLine := Nat.le_trans h (by decide)
@[simp] theorem s_sz : (sizeLine : Nat) = 16777216 := by decide
end DL
namespace DL
open PySem
section
variable {α : Type} {x0 x1 x2 x3 x4 x5 x6 x7 : α} {xs : List α}
@[simp] theorem s_at0 : L2.atI (x0 :: xs) 0 = some x0 := by
  unfold L2.atI L2.ixN
  rw [if_pos (by decide), if_pos (by rw [List.length_cons]; omega)]; rfl
theorem s_atN {n : Nat} (h : n < xs.length) : L2.atI xs n = xs[n]? := by
  unfold L2.atI L2.ixN
  rw [if_pos (by omega), if_pos (by omega)]; rfl
theorem atI_nat {i : Int} {y : α} (h0 : 0 ≤ i) (h : xs[i.toNat]? = some y) : L2.atI xs i = some y := by
  have hl : i.toNat < xs.length := (List.getElem?_eq_some_iff.mp h).1
  unfold L2.atI L2.ixN
  rw [if_pos h0, if_pos (by omega)]
  exact h
@[simp] theorem s_at1 : L2.atI (x0 :: x1 :: xs) 1 = some x1 := atI_nat (by decide) rfl
@[simp] theorem s_at2 : L2.atI (x0 :: x1 :: x2 :: xs) 2 = some x2 := atI_nat (by decide) rfl
@[simp] theorem s_at3 : L2.atI (x0 :: x1 :: x2 :: x3 :: xs) 3 = some x3 := atI_nat (by decide) rfl
@[simp] theorem s_at4 : L2.atI (x0 :: x1 :: x2 :: x3 :: x4 :: xs) 4 = some x4 := atI_nat (by decide) rfl
@[simp] theorem s_at5 : L2.atI (x0 :: x1 :: x2 :: x3 :: x4 :: x5 :: xs) 5 = some x5 := atI_nat (by decide) rfl
@[simp] theorem s_ix30 : L2.ixN 3 0 = some 0 := rfl
@[simp] theorem s_ix31 : L2.ixN 3 1 = some 1 := rfl
@[simp] theorem s_ix32 : L2.ixN 3 2 = some 2 := rfl
end
theorem fmod_pos {a b : Int} (h : 0 < b) : a.fmod b = a % b := Int.fmod_eq_emod_of_nonneg a (Int.le_of_lt h)
theorem fdiv_pos {a b : Int} (h : 0 < b) : a.fdiv b = a / b := Int.fdiv_eq_ediv_of_nonneg a (Int.le_of_lt h)
theorem divOk_of {m : Int} (h : 0 < m) (h2 : m < 18446744073709551616) : divOk m = true := by
  unfold divOk
  rw [Bool.or_eq_true]
  right
  have h3 : m.natAbs < 2 ^ 64 := by omega
  exact decide_eq_true ⟨h, Nat.lt_of_lt_of_le h3 (Nat.pow_le_pow_right (by decide) (by decide))⟩
theorem pick_at {cs : List Int} (h : cs ≠ []) (a : Int) : ∃ c, L2.atI (cs.map D.int) (a % cs.length) = some (.int c) := by
  have hl : 0 < (cs.length : Int) := by
    have := List.length_pos_iff.mpr h
    omega
  have h1 := Int.emod_nonneg a (Int.ne_of_gt hl)
  have h2 := Int.emod_lt_of_pos a hl
  have h3 : (a % (cs.length : Int)).toNat < cs.length := by omega
  exact ⟨cs[(a % (cs.length : Int)).toNat], atI_nat h1 (by rw [List.getElem?_map, List.getElem?_eq_getElem h3]; rfl)⟩
end DL
/-! DL: texts and equality of plain data. -/
namespace DL
open PySem
mutual
/-- None, bools, ints of at most sixty digits, tuples and lists of these -/
def inB : D → Bool
  | .non => true
  | .bl _ => true
  | .int i => decide (i.natAbs < 1000000000000000000000000000000000000000000000000000000000000)
  | .tup xs => inBs xs
  | .lst xs => inBs xs
  | _ => false
def inBs : List D → Bool
  | [] => true
  | x :: xs => inB x && inBs xs
end
mutual
def dpD : D → Nat
  | .tup xs => dpDs xs + 1
  | .lst xs => dpDs xs + 1
  | _ => 0
def dpDs : List D → Nat
  | [] => 0
  | x :: xs => max (dpD x) (dpDs xs)
end
mutual
def wtD : D → Nat
  | .int _ => 201
  | .tup xs => wtDs xs
  | .lst xs => wtDs xs
  | _ => 0
def wtDs : List D → Nat
  | [] => 0
  | x :: xs => wtD x + 1 + wtDs xs
end
theorem small_bits {i : Int} (h : i.natAbs < 1000000000000000000000000000000000000000000000000000000000000) : i.natAbs.log2 < 200 := by
  by_cases h0 : i.natAbs = 0
  · rw [h0]; decide
  · exact (Nat.log2_lt h0).mpr (Nat.lt_trans h (by decide))
theorem small_text {i : Int} (h : i.natAbs < 1000000000000000000000000000000000000000000000000000000000000) : (PyData.shown (.int i)).length ≤ 61 := by
  have h1 := int_text_length_le10 (a := i) (k := 60) (by decide) (Nat.lt_of_lt_of_le h (by decide))
  have e : (PyData.shown (.int i)) = Str.ofString (toString i) := by simp only [PyData.shown]
  rw [e, Str.ofString_eq_toList]
  show (Array.size _) ≤ 61
  rw [List.size_toArray, List.length_map]
  exact h1
theorem small_chars (s : String) : PyData.strOk (Str.ofString s) = true := by
  rw [Str.ofString_eq_toList]
  unfold PyData.strOk
  simp only [Array.all_eq_true]
  intro i hi
  simp only [List.size_toArray, List.length_map] at hi
  simp only [List.getElem_toArray, List.getElem_map, decide_eq_true_eq]
  have := (s.toList[i]).valid
  rcases this with h | h
  · exact Nat.lt_of_lt_of_le h (by decide)
  · exact h.2
theorem strOk_app {x y : Str} (h : PyData.strOk x = true) (k : PyData.strOk y = true) : PyData.strOk (x ++ y) = true := by
  unfold PyData.strOk at h k ⊢
  show (Array.all (x.cps ++ y.cps) _) = true
  rw [Array.all_append, h, k]; rfl
theorem strOk_from : ∀ (ts : List Str) (k : Nat) (acc : Str), PyData.strOk acc = true → (∀ t ∈ ts, PyData.strOk t = true) → PyData.strOk (textFrom k acc ts) = true
  | [], k, acc, h, _ => h
  | t :: ts, k, acc, h, a => by
    show PyData.strOk (textFrom (k + 1) _ ts) = true
    refine strOk_from ts (k + 1) _ (strOk_app (strOk_app h ?_) (a t (List.mem_cons_self))) fun u m => a u (List.mem_cons_of_mem _ m)
    exact small_chars _
theorem strOk_list {ts : List Str} (a : ∀ t ∈ ts, PyData.strOk t = true) : PyData.strOk (listText ts) = true :=
  strOk_app (strOk_from ts 0 _ (small_chars "[") a) (small_chars "]")
theorem strOk_join : ∀ {ts : List Str}, (∀ t ∈ ts, PyData.strOk t = true) → PyData.strOk (Str.join ", " ts) = true
  | [], _ => small_chars ""
  | [x], a => a x (List.mem_cons_self)
  | x :: y :: r, a => by
    have ih := strOk_join (ts := y :: r) fun t m => a t (List.mem_cons_of_mem _ m)
    have e : Str.join ", " (x :: y :: r) = x ++ ", " ++ Str.join ", " (y :: r) := rfl
    rw [e]
    exact strOk_app (strOk_app (a x (List.mem_cons_self)) (small_chars ", ")) ih
theorem strOk_tuple {ts : List Str} (a : ∀ t ∈ ts, PyData.strOk t = true) : PyData.strOk (tupleText ts) = true := by
  unfold tupleText
  exact strOk_app (strOk_app (small_chars "(") (strOk_join a)) (small_chars _)
/-- all that is asked of a datum that is told -/
def AllT (d : D) : Prop := plainD d = true ∧ (toP d).showable = true ∧ (toP d).canLay0 = true ∧ (toP d).depth ≤ dpD d ∧ (toP d).leavesShort 61 = true ∧ (toP d).weight ≤ wtD d ∧ PyData.strOk (toP d).shown = true
def AllTs (ds : List D) : Prop := plainDs ds = true ∧ PyData.showableAll (toPs ds) = true ∧ PyData.canLayAll0 (toPs ds) = true ∧ PyData.depthAll (toPs ds) ≤ dpDs ds ∧ PyData.leavesShortAll 61 (toPs ds) = true ∧ PyData.weightAll (toPs ds) ≤ wtDs ds ∧ ∀ t ∈ PyData.shownAll (toPs ds), PyData.strOk t = true
mutual
theorem allT : ∀ d : D, inB d = true → AllT d
  | .non, _ => ⟨rfl, by simp [toP, PyData.showable], by simp [toP, PyData.canLay0], by simp [toP, PyData.depth], by simp [toP, PyData.leavesShort], by simp [toP, PyData.weight], by simp only [toP, PyData.shown]; exact small_chars _⟩
  | .bl b, _ => ⟨rfl, by simp [toP, PyData.showable], by simp [toP, PyData.canLay0], by simp [toP, PyData.depth], by simp [toP, PyData.leavesShort], by simp [toP, PyData.weight], by simp only [toP, PyData.shown]; cases b <;> exact small_chars _⟩
  | .int i, h => by
    have h : i.natAbs < 1000000000000000000000000000000000000000000000000000000000000 := of_decide_eq_true h
    have hb := small_bits h
    refine ⟨rfl, ?_, by simp [toP, PyData.canLay0], by simp [toP, PyData.depth], ?_, ?_, ?_⟩
    · simp only [toP, PyData.showable]; exact decide_eq_true (by omega)
    · simp only [toP, PyData.leavesShort]; exact decide_eq_true (small_text h)
    · simp only [toP, PyData.weight, wtD]
      split <;> omega
    · simp only [toP, PyData.shown]; exact small_chars _
  | .tup xs, h => by
    obtain ⟨a, b, c, d, e, f, g⟩ := allTs xs h
    refine ⟨a, by simpa [toP, PyData.showable] using b, by simpa [toP, PyData.canLay0] using c, by simpa [toP, PyData.depth, dpD] using d, by simpa [toP, PyData.leavesShort] using e, by simpa [toP, PyData.weight, wtD] using f, ?_⟩
    simp only [toP, PyData.shown]
    exact strOk_tuple g
  | .lst xs, h => by
    obtain ⟨a, b, c, d, e, f, g⟩ := allTs xs h
    refine ⟨a, by simpa [toP, PyData.showable] using b, by simpa [toP, PyData.canLay0] using c, by simpa [toP, PyData.depth, dpD] using d, by simpa [toP, PyData.leavesShort] using e, by simpa [toP, PyData.weight, wtD] using f, ?_⟩
    simp only [toP, PyData.shown]
    exact strOk_list g
  | .str _, h => by cases h
  | .ty _, h => by cases h
  | .fn _, h => by cases h
  | .scr _, h => by cases h
  | .dK _, h => by cases h
  | .dT _, h => by cases h
  | .ins _ _, h => by cases h
theorem allTs : ∀ ds : List D, inBs ds = true → AllTs ds
  | [], _ => ⟨rfl, by simp [toPs, PyData.showableAll], by simp [toPs, PyData.canLayAll0], by simp [toPs, PyData.depthAll], by simp [toPs, PyData.leavesShortAll], by simp [toPs, PyData.weightAll], by simp [toPs, PyData.shownAll]⟩
  | x :: xs, h => by
    have h : (inB x && inBs xs) = true := h
    rw [Bool.and_eq_true] at h
    obtain ⟨a, b, c, d, e, f, g⟩ := allT x h.1
    obtain ⟨a', b', c', d', e', f', g'⟩ := allTs xs h.2
    refine ⟨by show (plainD x && plainDs xs) = true; rw [a, a']; rfl, by simp [toPs, PyData.showableAll, b, b'], by simp [toPs, PyData.canLayAll0, c, c'], ?_, by simp [toPs, PyData.leavesShortAll, e, e'], ?_, ?_⟩
    · simp only [toPs, PyData.depthAll, dpDs]; omega
    · simp only [toPs, PyData.weightAll, wtDs]; omega
    · intro t ht
      simp only [toPs, PyData.shownAll, List.mem_cons] at ht
      rcases ht with rfl | ht
      · exact g
      · exact g' t ht
end
/-- a datum whose text may be asked, that may be compared -/
def okT (d : D) : Bool := inB d && (decide (dpD d ≤ 64) && decide (wtD d ≤ 200000))
theorem okT.parts {d : D} (h : okT d = true) : inB d = true ∧ dpD d ≤ 64 ∧ wtD d ≤ 200000 := by
  unfold okT at h
  simpa using h
theorem okT.show {d : D} (h : okT d = true) : showD d = true := by
  obtain ⟨h1, h2, h3⟩ := okT.parts h
  obtain ⟨a, b, c, e, f, g, _⟩ := allT d h1
  unfold showD
  have hl := PyData.shown_le 61 (by decide) (toP d) f
  have hs : (toP d).shown.length ≤ sizeLine := by
    have : sizeLine = 16777216 := by decide
    omega
  rw [a, b, decide_eq_true (Nat.le_trans e h2), decide_eq_true hs]; rfl
theorem okT.ok {d : D} (h : okT d = true) : okD d = true := by
  obtain ⟨h1, h2, h3⟩ := okT.parts h
  obtain ⟨a, b, c, e, f, g, _⟩ := allT d h1
  unfold okD SeqAt.shaped
  rw [a, c, decide_eq_true (Nat.le_trans e h2)]; rfl
/-- its text -/
def rp (d : D) : D := .str (toP d).shown
theorem gRepr_ok {d : D} (h : okT d = true) : gRepr [d] = some (rp d) := by
  show (if showD d = true then some (D.str (toP d).shown) else none) = _
  rw [if_pos (okT.show h)]; rfl
theorem rp_ok {d : D} (h : okT d = true) : okD (rp d) = true := by
  obtain ⟨_, _, _, _, _, _, g⟩ := allT d (okT.parts h).1
  unfold okD SeqAt.shaped rp
  simp [plainD, toP, PyData.canLay0, PyData.depth, g]
theorem eqD_self {d : D} (h : okD d = true) : eqD d d = true := by
  unfold okD SeqAt.shaped at h
  rw [Bool.and_eq_true, Bool.and_eq_true] at h
  exact SeqAt.eqv_refl _ h.2.1
theorem gNe_rp {d : D} (h : okT d = true) : gNe (rp d) (rp d) = some (.bl false) := by
  unfold gNe
  rw [rp_ok h, eqD_self (rp_ok h)]; rfl
theorem gEq_self {d : D} (h : okT d = true) : gEq d d = some (.bl true) := by
  unfold gEq
  rw [okT.ok h, eqD_self (okT.ok h)]; rfl
theorem gNe_self {d : D} (h : okT d = true) : gNe d d = some (.bl false) := by
  unfold gNe
  rw [okT.ok h, eqD_self (okT.ok h)]; rfl
end DL
namespace DL
open PySem
theorem ints_plain : ∀ cs : List Int, plainDs (cs.map .int) = true ∧ PyData.canLayAll0 (toPs (cs.map .int)) = true ∧ PyData.depthAll (toPs (cs.map .int)) = 0
  | [] => ⟨rfl, by simp [toPs, PyData.canLayAll0], by simp [toPs, PyData.depthAll]⟩
  | c :: cs => by
    obtain ⟨a, b, d⟩ := ints_plain cs
    refine ⟨?_, ?_, ?_⟩
    · show (plainD (.int c) && plainDs (cs.map .int)) = true
      rw [a]; rfl
    · simp only [List.map_cons, toPs, toP, PyData.canLayAll0, b, PyData.canLay0]; rfl
    · simp only [List.map_cons, toPs, toP, PyData.depthAll, d, PyData.depth]; rfl
theorem okD_ints (cs : List Int) : okD (.lst (cs.map .int)) = true := by
  obtain ⟨a, b, d⟩ := ints_plain cs
  unfold okD SeqAt.shaped
  have e : plainD (.lst (cs.map D.int)) = plainDs (cs.map D.int) := rfl
  rw [e, a]
  simp [toP, PyData.canLay0, b, PyData.depth, d]
theorem ne_nil (cs : List Int) : gNe (.lst (cs.map .int)) (.lst []) = some (.bl (!cs.isEmpty)) := by
  unfold gNe
  rw [okD_ints cs, show okD (.lst []) = true from okD_ints []]
  cases cs <;> simp [eqD, toP, toPs, PyData.eqv, PyData.eqvAll]
theorem mulOk_l {i j : Int} (h : i.natAbs < 18446744073709551616) : mulOk i j = true := by
  unfold mulOk
  rw [Bool.or_eq_true]
  exact .inl (decide_eq_true (by omega))
theorem mulOk_r {i j : Int} (h : j.natAbs < 18446744073709551616) : mulOk i j = true := by
  unfold mulOk
  rw [Bool.or_eq_true]
  exact .inr (decide_eq_true (by omega))
theorem powOk {i : Int} {k : Nat} (h : i.natAbs < 18446744073709551616) (hk : k ≤ 1000000) : gPow (.int i) (.int k) = some (.int (i ^ k)) := by
  show (if 0 ≤ (k : Int) ∧ (k : Int) ≤ 1000000 ∧ i.natAbs < 2 ^ 64 then some (D.int (i ^ (k : Int).toNat)) else none) = _
  rw [if_pos ⟨by omega, by omega, by omega⟩]
  rfl
end DL
namespace DL
theorem forM_inv {t : Tg} {b : M Fl} (Inv : Nat → Rho → Prop) : ∀ {ds : List D} {k : Nat} {ρ : Rho}, Inv k ρ → (∀ i d ρ, Inv i ρ → k ≤ i → i < k + ds.length → ds[i - k]? = some d → ∃ ρ1 ρ2, t d ρ = some ρ1 ∧ b ρ1 = .ok .nx ρ2 ∧ Inv (i + 1) ρ2) →
    ∃ ρ', DL.forM t b ds ρ = .ok .nx ρ' ∧ Inv (k + ds.length) ρ'
  | [], k, ρ, h, _ => ⟨ρ, rfl, h⟩
  | d :: ds, k, ρ, h, st => by
    obtain ⟨ρ1, ρ2, e1, e2, h2⟩ := st k d ρ h (Nat.le_refl _) (by rw [List.length_cons]; omega) (by rw [Nat.sub_self]; rfl)
    obtain ⟨ρ', e, h'⟩ := forM_inv Inv (ds := ds) (k := k + 1) h2 fun i d' ρ hi h1 h3 hd => st i d' ρ hi (by omega) (by rw [List.length_cons]; omega) (by
      have : i - k = (i - (k + 1)) + 1 := by omega
      rw [this]; simpa using hd)
    refine ⟨ρ', ?_, by rw [List.length_cons]; have e3 : k + (ds.length + 1) = k + 1 + ds.length := by omega
                       rw [e3]; exact h'⟩
    rw [s_forC, e1]
    dsimp only
    rw [e2]
    exact e
end DL
namespace DL
open PySem
theorem okD_int (i : Int) : okD (.int i) = true := by
  unfold okD SeqAt.shaped
  simp [plainD, toP, PyData.canLay0, PyData.depth]
theorem okD_bl (i : Bool) : okD (.bl i) = true := by
  unfold okD SeqAt.shaped
  simp [plainD, toP, PyData.canLay0, PyData.depth]
theorem eqD_int (i j : Int) : eqD (.int i) (.int j) = decide (i = j) := by
  show PyData.eqv (.int i) (.int j) = _
  rw [PyData.eqv]
  by_cases h : i = j <;> simp [h]
theorem eqD_bl (i j : Bool) : eqD (.bl i) (.bl j) = decide (i = j) := by
  show PyData.eqv (.bool i) (.bool j) = _
  rw [PyData.eqv]
  cases i <;> cases j <;> rfl
@[simp] theorem s_neI (i j : Int) : gNe (.int i) (.int j) = some (.bl (!decide (i = j))) := by
  unfold gNe
  rw [okD_int, okD_int, eqD_int]; rfl
@[simp] theorem s_eqI (i j : Int) : gEq (.int i) (.int j) = some (.bl (decide (i = j))) := by
  unfold gEq
  rw [okD_int, okD_int, eqD_int]; rfl
@[simp] theorem s_neB (i j : Bool) : gNe (.bl i) (.bl j) = some (.bl (!decide (i = j))) := by
  unfold gNe
  rw [okD_bl, okD_bl, eqD_bl]; rfl
@[simp] theorem s_eqB (i j : Bool) : gEq (.bl i) (.bl j) = some (.bl (decide (i = j))) := by
  unfold gEq
  rw [okD_bl, okD_bl, eqD_bl]; rfl
end DL
namespace DL
open PySem
/-! ### equality, part by part -/
theorem okD_tup {xs : List D} (h : okDs xs = true) (hd : (toP (.tup xs)).depth ≤ 64) : okD (.tup xs) = true := by
  unfold okDs SeqAt.shaped at h
  unfold okD SeqAt.shaped
  simp only [Bool.and_eq_true, decide_eq_true_eq] at h ⊢
  refine ⟨h.1, ?_, hd⟩
  have := h.2.1
  simpa [toP, PyData.canLay0] using this
theorem eqD_tup (xs ys : List D) : eqD (.tup xs) (.tup ys) = PyData.eqvAll (toPs xs) (toPs ys) := by
  show PyData.eqv (.tuple (toPs xs)) (.tuple (toPs ys)) = _
  rw [PyData.eqv]
theorem eqD_lst (xs ys : List D) : eqD (.lst xs) (.lst ys) = PyData.eqvAll (toPs xs) (toPs ys) := by
  show PyData.eqv (.list (toPs xs)) (.list (toPs ys)) = _
  rw [PyData.eqv]
theorem eqs_nil : PyData.eqvAll (toPs []) (toPs []) = true := by simp [toPs, PyData.eqvAll]
theorem eqs_cons (x y : D) (xs ys : List D) : PyData.eqvAll (toPs (x :: xs)) (toPs (y :: ys)) = (eqD x y && PyData.eqvAll (toPs xs) (toPs ys)) := by
  show PyData.eqvAll (toP x :: toPs xs) (toP y :: toPs ys) = _
  rw [PyData.eqvAll]; rfl
theorem gEq_ok {x y : D} (h : okT x = true) (k : okT y = true) : gEq x y = some (.bl (eqD x y)) := by
  unfold gEq
  rw [okT.ok h, okT.ok k]; rfl
theorem gNe_ok {x y : D} (h : okT x = true) (k : okT y = true) : gNe x y = some (.bl (!eqD x y)) := by
  unfold gNe
  rw [okT.ok h, okT.ok k]; rfl
end DL
namespace DL
theorem lc_inv {vs : List Nat} {t : Tg} {tt : M Bool} {te : M D} (Inv : Rho → Prop) (f : D → Option D) : ∀ {ds : List D} {ρ : Rho}, Inv ρ →
    (∀ d ∈ ds, ∀ ρ, Inv ρ → ∃ ρ1 ρ2 b, t d ρ = some ρ1 ∧ tt ρ1 = .ok b ρ2 ∧ ((b = false ∧ f d = none ∧ Inv (wipeR ρ2 vs)) ∨ (b = true ∧ ∃ y ρ3, te ρ2 = .ok y ρ3 ∧ f d = some y ∧ Inv (wipeR ρ3 vs)))) →
    ∃ ρ', lcL vs t tt te ds ρ = .ok (ds.filterMap f) ρ' ∧ Inv ρ'
  | [], ρ, h, _ => ⟨ρ, rfl, h⟩
  | d :: ds, ρ, h, st => by
    obtain ⟨ρ1, ρ2, b, e1, e2, h2⟩ := st d (List.mem_cons_self) ρ h
    rw [s_lc1, e1]
    dsimp only
    rw [e2]
    rcases h2 with ⟨rfl, ef, h3⟩ | ⟨rfl, y, ρ3, e3, ef, h3⟩
    · obtain ⟨ρ', e, h'⟩ := lc_inv Inv f (ds := ds) h3 fun d m => st d (List.mem_cons_of_mem _ m)
      exact ⟨ρ', by rw [List.filterMap_cons, ef]; exact e, h'⟩
    · obtain ⟨ρ', e, h'⟩ := lc_inv Inv f (ds := ds) h3 fun d m => st d (List.mem_cons_of_mem _ m)
      refine ⟨ρ', ?_, h'⟩
      dsimp only
      rw [e3]
      dsimp only
      rw [e, List.filterMap_cons, ef]
end DL
namespace DL
def intsI (lo : Int) (n : Nat) : List Int := (List.range n).map fun (i : Nat) => lo + (i : Int)
theorem intsFrom_map (lo : Int) (n : Nat) : DL.intsFrom lo n = (intsI lo n).map D.int := by
  unfold DL.intsFrom intsI
  rw [List.map_map]; rfl
theorem rng1_ok {n : Int} (h : -4611686018427387904 ≤ n ∧ n < 4611686018427387904) : rng1 [.int n] = some ((intsI 0 n.toNat).map D.int) := by
  have e : small n = true := by
    unfold small
    rw [decide_eq_true (by omega), decide_eq_true (by omega)]; rfl
  show (if small n = true then some (DL.intsFrom 0 n.toNat) else none) = _
  rw [if_pos e, intsFrom_map]
theorem rng2_ok {a b : Int} (h : -4611686018427387904 ≤ a ∧ a < 4611686018427387904) (k : -4611686018427387904 ≤ b ∧ b < 4611686018427387904) : rng2 [.int a, .int b] = some ((intsI a (b - a).toNat).map D.int) := by
  have e : (small a && small b) = true := by
    unfold small
    rw [decide_eq_true (by omega), decide_eq_true (by omega), decide_eq_true (by omega), decide_eq_true (by omega)]; rfl
  show (if (small a && small b) = true then some (DL.intsFrom a (b - a).toNat) else none) = _
  rw [if_pos e, intsFrom_map]
theorem intsI_len (lo : Int) (n : Nat) : (intsI lo n).length = n := by simp [intsI]
theorem mem_intsI {lo x : Int} {n : Nat} : x ∈ intsI lo n ↔ lo ≤ x ∧ x < lo + n := by
  unfold intsI
  rw [List.mem_map]
  constructor
  · rintro ⟨i, hi, rfl⟩
    rw [List.mem_range] at hi
    omega
  · intro h
    exact ⟨(x - lo).toNat, by rw [List.mem_range]; omega, by omega⟩
end DL
namespace DL
open PySem
theorem okD_str (s : String) : okD (.str (Str.ofString s)) = true := by
  unfold okD SeqAt.shaped
  simp [plainD, toP, PyData.canLay0, PyData.depth, small_chars]
end DL
namespace Gk01
open PySem PySem.Spec PyProof.Rows L2 DL
def top (i : Nat) : Stmt := PySem.Challenge.pw_everyseam_k01_whole_moves_are_a_group.main.body.getD i (.Pass ⟨0, 0, 0, 0⟩)
abbrev s__law_pen : Stmt := top 30
abbrev s__law_by_cells : Stmt := top 35
abbrev s__law_turned : Stmt := top 33
abbrev s__law_put : Stmt := top 34
abbrev s__law_after : Stmt := top 36
abbrev s__law_draw : Stmt := top 31
abbrev s__law_move : Stmt := top 38
abbrev s__law_back : Stmt := top 37
abbrev s__law_pick : Stmt := top 32
abbrev s__law_still_points : Stmt := top 40
abbrev s_is_integer : Stmt := top 1
abbrev s_is_between : Stmt := top 2
abbrev s_is_move : Stmt := top 11
abbrev s_need_move : Stmt := top 12
abbrev s_taken : Stmt := top 13
abbrev s_put : Stmt := top 14
abbrev s_joined_turn : Stmt := top 15
abbrev s_product : Stmt := top 17
abbrev s_power : Stmt := top 20
abbrev s_kind_of : Stmt := top 27
abbrev s_order_of : Stmt := top 21
abbrev s_times : Stmt := top 26
abbrev s_centre_of : Stmt := top 28
abbrev s_after : Stmt := top 22
abbrev s_undone_turn : Stmt := top 16
abbrev s_inverse : Stmt := top 18
abbrev s_back : Stmt := top 23
abbrev s__law_kind_of : Stmt := top 39
abbrev s_conjugate : Stmt := top 19
abbrev s_seen_from : Stmt := top 24
abbrev s_repeated : Stmt := top 25
abbrev s_law : Stmt := top 41
end Gk01
namespace Gk01
open PySem PySem.Spec PyProof.Rows L2 DL
noncomputable section
def b__law_pen : M Fl := retM (appM gLst (consM (lcM [1] (seqOf (slcM (getV 0) (noO) (someO (pureM (.int 63))))) (gSet 1) (yesM) (appM gIntC (consM (getV 1) (nilM)))) (consM (pureM (.int 0)) (consM (pureM (.int 0)) (nilM)))))
def m__law_pen : List D → Res D := runB 2 [] false b__law_pen
def b__law_by_cells : M Fl := seqM (setM 3 (appM gLst (consM (appM gTup (consM (bin gSubI (bin gIx (getV 1) (pureM (.int 0))) (bin gIx (getV 0) (pureM (.int 0)))) (consM (bin gSubI (bin gIx (getV 1) (pureM (.int 1))) (bin gIx (getV 0) (pureM (.int 1)))) (nilM)))) (consM (appM gTup (consM (bin gSubI (bin gIx (getV 2) (pureM (.int 0))) (bin gIx (getV 0) (pureM (.int 0)))) (consM (bin gSubI (bin gIx (getV 2) (pureM (.int 1))) (bin gIx (getV 0) (pureM (.int 1)))) (nilM)))) (nilM))))) (seqM (setM 4 (appM gLst (consM (appM gLst (consM (appM gTup (consM (pureM (.int 1)) (consM (pureM (.int 0)) (nilM)))) (consM (appM gTup (consM (pureM (.int 0)) (consM (pureM (.int 1)) (nilM)))) (nilM)))) (consM (appM gLst (consM (appM gTup (consM (pureM (.int 0)) (consM (pureM (.int 1)) (nilM)))) (consM (appM gTup (consM (un1 gNeg (pureM (.int 1))) (consM (pureM (.int 0)) (nilM)))) (nilM)))) (consM (appM gLst (consM (appM gTup (consM (un1 gNeg (pureM (.int 1))) (consM (pureM (.int 0)) (nilM)))) (consM (appM gTup (consM (pureM (.int 0)) (consM (un1 gNeg (pureM (.int 1))) (nilM)))) (nilM)))) (consM (appM gLst (consM (appM gTup (consM (pureM (.int 0)) (consM (un1 gNeg (pureM (.int 1))) (nilM)))) (consM (appM gTup (consM (pureM (.int 1)) (consM (pureM (.int 0)) (nilM)))) (nilM)))) (nilM))))))) (seqM (setM 4 (bin gAdd (getV 4) (appM gLst (consM (appM gLst (consM (appM gTup (consM (un1 gNeg (pureM (.int 1))) (consM (pureM (.int 0)) (nilM)))) (consM (appM gTup (consM (pureM (.int 0)) (consM (pureM (.int 1)) (nilM)))) (nilM)))) (consM (appM gLst (consM (appM gTup (consM (pureM (.int 0)) (consM (un1 gNeg (pureM (.int 1))) (nilM)))) (consM (appM gTup (consM (un1 gNeg (pureM (.int 1))) (consM (pureM (.int 0)) (nilM)))) (nilM)))) (consM (appM gLst (consM (appM gTup (consM (pureM (.int 1)) (consM (pureM (.int 0)) (nilM)))) (consM (appM gTup (consM (pureM (.int 0)) (consM (un1 gNeg (pureM (.int 1))) (nilM)))) (nilM)))) (consM (appM gLst (consM (appM gTup (consM (pureM (.int 0)) (consM (pureM (.int 1)) (nilM)))) (consM (appM gTup (consM (pureM (.int 1)) (consM (pureM (.int 0)) (nilM)))) (nilM)))) (nilM)))))))) (retM (appM gTup (consM (metM' "list" gIndex (getV 4) (consM (getV 3) (nilM))) (consM (bin gIx (getV 0) (pureM (.int 0))) (consM (bin gIx (getV 0) (pureM (.int 1))) (nilM))))))))
def m__law_by_cells : List D → Res D := runB 5 [] false b__law_by_cells
def l0__law_turned : M Fl := parM 2 3 (consM (bin gSubI (pureM (.int 0)) (getV 3)) (consM (getV 2) (nilM)))
def b__law_turned : M Fl := seqM (asgM (gUnp 2 (gsCons (gSet 2) (gsCons (gSet 3) (gsNil)))) (getV 1)) (seqM (ifM (truM (bin gGt (getV 0) (pureM (.int 3)))) (setM 2 (bin gSubI (pureM (.int 0)) (getV 2))) (nextM)) (seqM (forS (ofArgs rng1 (consM (bin gMod (appM gIntC (consM (getV 0) (nilM))) (pureM (.int 4))) (nilM))) (gSet 4) l0__law_turned) (retM (appM gTup (consM (getV 2) (consM (getV 3) (nilM)))))))
def m__law_turned : List D → Res D := runB 5 [] false b__law_turned
def b__law_put : M Fl := seqM (asgM (gUnp 2 (gsCons (gSet 2) (gsCons (gSet 3) (gsNil)))) (callM 2 [] m__law_turned (consM (bin gIx (getV 0) (pureM (.int 0))) (consM (getV 1) (nilM))))) (retM (appM gTup (consM (bin gAdd (getV 2) (bin gIx (getV 0) (pureM (.int 1)))) (consM (bin gAdd (getV 3) (bin gIx (getV 0) (pureM (.int 2)))) (nilM)))))
def m__law_put : List D → Res D := runB 4 [] false b__law_put
def b__law_after : M Fl := seqM (setM 2 (lcM [3] (seqOf (appM gTup (consM (appM gTup (consM (pureM (.int 0)) (consM (pureM (.int 0)) (nilM)))) (consM (appM gTup (consM (pureM (.int 1)) (consM (pureM (.int 0)) (nilM)))) (consM (appM gTup (consM (pureM (.int 0)) (consM (pureM (.int 1)) (nilM)))) (nilM)))))) (gSet 3) (yesM) (callM 2 [] m__law_put (consM (getV 0) (consM (callM 2 [] m__law_put (consM (getV 1) (consM (getV 3) (nilM)))) (nilM)))))) (retM (callM 3 [] m__law_by_cells (consM (bin gIx (getV 2) (pureM (.int 0))) (consM (bin gIx (getV 2) (pureM (.int 1))) (consM (bin gIx (getV 2) (pureM (.int 2))) (nilM))))))
def m__law_after : List D → Res D := runB 4 [] false b__law_after
def b__law_draw : M Fl := seqM (ifM (truM (bin gGt (ixoM 0 (pureM (.int 2))) (pureM (.int 0)))) (seqM (setM 2 (appM gIntC (consM (ixoM 0 (pureM (.int 2))) (nilM)))) (seqM (setIxM 0 (bin gDivW (getV 2) (getV 1)) (pureM (.int 2))) (retM (bin gMod (appM gIntC (consM (getV 2) (nilM))) (getV 1))))) (nextM)) (seqM (setM 3 (ixoM 0 (pureM (.int 1)))) (seqM (setIxM 0 (bin gAdd (getV 3) (pureM (.int 1))) (pureM (.int 1))) (seqM (setM 4 (bin gAdd (bin gMul (pureM (.int 61587)) (getV 3)) (pureM (.int 6219)))) (seqM (ifM (truM (bin gNe (ixoM 0 (pureM (.int 0))) (appM gLst (nilM)))) (setM 4 (bin gIx (ixoM 0 (pureM (.int 0))) (bin gMod (appM gIntC (consM (getV 3) (nilM))) (appM gLen (consM (ixoM 0 (pureM (.int 0))) (nilM)))))) (nextM)) (seqM (ifM (andT (truM (bin gLt (getV 3) (appM gLen (consM (ixoM 0 (pureM (.int 0))) (nilM))))) (truM (bin gGe (appM gAbs (consM (getV 4) (nilM))) (bin gPow (pureM (.int 10)) (pureM (.int 18)))))) (seqM (setM 2 (bin gAdd (bin gMul (pureM (.int 2)) (bin gSubI (appM gAbs (consM (getV 4) (nilM))) (bin gPow (pureM (.int 10)) (pureM (.int 18))))) (appM gIntC (consM (bin gLt (getV 4) (pureM (.int 0))) (nilM))))) (seqM (setIxM 0 (bin gDivW (appM gIntC (consM (getV 2) (nilM))) (getV 1)) (pureM (.int 2))) (retM (bin gMod (appM gIntC (consM (getV 2) (nilM))) (getV 1))))) (nextM)) (seqM (setM 5 (bin gMod (appM gIntC (consM (bin gPow (bin gAdd (bin gAdd (bin gMod (appM gIntC (consM (getV 4) (nilM))) (pureM (.int 2147483587))) (bin gMul (pureM (.int 46383)) (getV 3))) (pureM (.int 3177))) (pureM (.int 5))) (nilM))) (pureM (.int 2147483563)))) (seqM (setM 5 (bin gMod (appM gIntC (consM (bin gPow (bin gAdd (bin gAdd (bin gMul (getV 5) (bin gAdd (bin gMul (pureM (.int 2)) (getV 3)) (pureM (.int 6219)))) (bin gMul (bin gMul (pureM (.int 91541)) (getV 3)) (getV 3))) (pureM (.int 46383))) (pureM (.int 3))) (nilM))) (pureM (.int 2147483549)))) (retM (bin gMod (appM gIntC (consM (bin gDivW (getV 5) (pureM (.int 32))) (nilM))) (getV 1))))))))))
def m__law_draw : List D → Res D := runB 6 [.lst .fz] false b__law_draw
def b__law_move : M Fl := retM (appM gTup (consM (callP 1 [] m__law_draw 0 (consM (pureM (.int 8)) (nilM))) (consM (bin gSubI (callP 1 [] m__law_draw 0 (consM (bin gAdd (bin gMul (pureM (.int 2)) (getV 1)) (pureM (.int 1))) (nilM))) (getV 1)) (consM (bin gSubI (callP 1 [] m__law_draw 0 (consM (bin gAdd (bin gMul (pureM (.int 2)) (getV 1)) (pureM (.int 1))) (nilM))) (getV 1)) (nilM)))))
def m__law_move : List D → Res D := runB 2 [.lst .fz] false b__law_move
def b__law_back : M Fl := seqM (setM 1 (bin gIx (lcM [4] (ofArgs rng1 (consM (pureM (.int 8)) (nilM))) (gSet 4) (truM (bin gEq (lcM [5] (seqOf (appM gTup (consM (appM gTup (consM (pureM (.int 1)) (consM (pureM (.int 0)) (nilM)))) (consM (appM gTup (consM (pureM (.int 0)) (consM (pureM (.int 1)) (nilM)))) (nilM))))) (gSet 5) (yesM) (callM 2 [] m__law_turned (consM (getV 4) (consM (callM 2 [] m__law_turned (consM (bin gIx (getV 0) (pureM (.int 0))) (consM (getV 5) (nilM)))) (nilM))))) (appM gLst (consM (appM gTup (consM (pureM (.int 1)) (consM (pureM (.int 0)) (nilM)))) (consM (appM gTup (consM (pureM (.int 0)) (consM (pureM (.int 1)) (nilM)))) (nilM)))))) (getV 4)) (pureM (.int 0)))) (seqM (asgM (gUnp 2 (gsCons (gSet 2) (gsCons (gSet 3) (gsNil)))) (callM 2 [] m__law_turned (consM (getV 1) (consM (appM gTup (consM (bin gIx (getV 0) (pureM (.int 1))) (consM (bin gIx (getV 0) (pureM (.int 2))) (nilM)))) (nilM))))) (retM (appM gTup (consM (getV 1) (consM (bin gSubI (pureM (.int 0)) (getV 2)) (consM (bin gSubI (pureM (.int 0)) (getV 3)) (nilM)))))))
def m__law_back : List D → Res D := runB 6 [] false b__law_back
def b__law_pick : M Fl := retM (bin gIx (getV 1) (callP 1 [] m__law_draw 0 (consM (appM gLen (consM (getV 1) (nilM))) (nilM))))
def m__law_pick : List D → Res D := runB 2 [.lst .fz] false b__law_pick
def l0__law_still_points : M Fl := seqM (setM 5 (callM 2 [] m__law_turned (consM (bin gIx (getV 0) (pureM (.int 0))) (consM (appM gTup (consM (getV 3) (consM (getV 4) (nilM)))) (nilM))))) (ifM (truM (bin gEq (appM gTup (consM (bin gAdd (bin gIx (getV 5) (pureM (.int 0))) (bin gMul (pureM (.int 2)) (bin gIx (getV 0) (pureM (.int 1))))) (consM (bin gAdd (bin gIx (getV 5) (pureM (.int 1))) (bin gMul (pureM (.int 2)) (bin gIx (getV 0) (pureM (.int 2))))) (nilM)))) (appM gTup (consM (getV 3) (consM (getV 4) (nilM)))))) (appM' 1 (appM gTup (consM (getV 3) (consM (getV 4) (nilM))))) (nextM))
def l1__law_still_points : M Fl := forS (ofArgs rng2 (consM (bin gSubI (pureM (.int 0)) (getV 2)) (consM (bin gAdd (getV 2) (pureM (.int 1))) (nilM)))) (gSet 4) l0__law_still_points
def b__law_still_points : M Fl := seqM (parM 1 2 (consM (appM gLst (nilM)) (consM (bin gAdd (bin gAdd (appM gAbs (consM (bin gIx (getV 0) (pureM (.int 1))) (nilM))) (appM gAbs (consM (bin gIx (getV 0) (pureM (.int 2))) (nilM)))) (pureM (.int 2))) (nilM)))) (seqM (forS (ofArgs rng2 (consM (bin gSubI (pureM (.int 0)) (getV 2)) (consM (bin gAdd (getV 2) (pureM (.int 1))) (nilM)))) (gSet 3) l1__law_still_points) (retM (getV 1)))
def m__law_still_points : List D → Res D := runB 6 [] false b__law_still_points
def b_is_integer : M Fl := retM (andM (un1 (isiD "int") (getV 0)) (notM (un1 (isiD "bool") (getV 0))))
def m_is_integer : List D → Res D := runB 1 [] false b_is_integer
def b_is_between : M Fl := retM (andM (callM 1 [] m_is_integer (consM (getV 0) (nilM))) (chainM (gInt (fun i j => decide (i ≤ j))) (gInt (fun i j => decide (i ≤ j))) (getV 1) (getV 0) (getV 2)))
def m_is_between : List D → Res D := runB 3 [] false b_is_between
def b_is_move : M Fl := seqM (ifM (orT (notT (truM (un1 (isiD "tuple") (getV 0)))) (orT (truM (bin gNe (appM gLen (consM (getV 0) (nilM))) (pureM (.int 3)))) (notT (truM (callM 3 [] m_is_between (consM (bin gIx (getV 0) (pureM (.int 0))) (consM (pureM (.int 0)) (consM (bin gSubI (pureM (.int 8)) (pureM (.int 1))) (nilM))))))))) (retM (pureM (.bl false))) (nextM)) (retM (appM gAll (consM (lcM [1] (seqOf (slcM (getV 0) (someO (pureM (.int 1))) (noO))) (gSet 1) (yesM) (callM 3 [] m_is_between (consM (getV 1) (consM (bin gSubI (pureM (.int 0)) (pureM (.int 1000000000000))) (consM (pureM (.int 1000000000000)) (nilM)))))) (nilM))))
def m_is_move : List D → Res D := runB 2 [] false b_is_move
def b_need_move : M Fl := ifM (notT (truM (callM 1 [] m_is_move (consM (getV 1) (nilM))))) (failM) (nextM)
def m_need_move : List D → Res D := runB 2 [] true b_need_move
def l0_taken : M Fl := parM 2 3 (consM (bin gSubI (pureM (.int 0)) (getV 3)) (consM (getV 2) (nilM)))
def b_taken : M Fl := seqM (asgM (gUnp 2 (gsCons (gSet 2) (gsCons (gSet 3) (gsNil)))) (getV 1)) (seqM (ifM (truM (bin gGt (getV 0) (pureM (.int 3)))) (setM 2 (bin gSubI (pureM (.int 0)) (getV 2))) (nextM)) (seqM (forS (ofArgs rng1 (consM (bin gMod (getV 0) (pureM (.int 4))) (nilM))) (gSet 4) l0_taken) (retM (appM gTup (consM (getV 2) (consM (getV 3) (nilM)))))))
def m_taken : List D → Res D := runB 5 [] false b_taken
def b_put : M Fl := seqM (asgM (gUnp 2 (gsCons (gSet 2) (gsCons (gSet 3) (gsNil)))) (callM 2 [] m_taken (consM (bin gIx (getV 0) (pureM (.int 0))) (consM (getV 1) (nilM))))) (retM (appM gTup (consM (bin gAdd (getV 2) (bin gIx (getV 0) (pureM (.int 1)))) (consM (bin gAdd (getV 3) (bin gIx (getV 0) (pureM (.int 2)))) (nilM)))))
def m_put : List D → Res D := runB 4 [] false b_put
def b_joined_turn : M Fl := seqM (setM 2 (bin gNe (bin gGt (getV 0) (pureM (.int 3))) (bin gGt (getV 1) (pureM (.int 3))))) (seqM (setM 3 (bin gAdd (getV 0) (ifM (truM (bin gGt (getV 0) (pureM (.int 3)))) (bin gSubI (pureM (.int 0)) (getV 1)) (getV 1)))) (retM (bin gAdd (bin gMod (getV 3) (pureM (.int 4))) (ifM (truM (getV 2)) (pureM (.int 4)) (pureM (.int 0))))))
def m_joined_turn : List D → Res D := runB 4 [] false b_joined_turn
def b_product : M Fl := seqM (asgM (gUnp 2 (gsCons (gSet 2) (gsCons (gSet 3) (gsNil)))) (callM 2 [] m_put (consM (getV 0) (consM (slcM (getV 1) (someO (pureM (.int 1))) (noO)) (nilM))))) (retM (appM gTup (consM (callM 2 [] m_joined_turn (consM (bin gIx (getV 0) (pureM (.int 0))) (consM (bin gIx (getV 1) (pureM (.int 0))) (nilM)))) (consM (getV 2) (consM (getV 3) (nilM))))))
def m_product : List D → Res D := runB 4 [] false b_product
def l0_power : M Fl := seqM (ifM (truM (bin gEq (bin gMod (getV 1) (pureM (.int 2))) (pureM (.int 1)))) (setM 2 (callM 2 [] m_product (consM (getV 3) (consM (getV 2) (nilM))))) (nextM)) (seqM (setM 3 (callM 2 [] m_product (consM (getV 3) (consM (getV 3) (nilM))))) (augM 1 gPosDiv (pureM (.int 2))))
def b_power : M Fl := seqM (parM 2 3 (consM (pureM (.tup [.int 0, .int 0, .int 0])) (consM (getV 0) (nilM)))) (seqM (whileM (truM (bin gGt (getV 1) (pureM (.int 0)))) l0_power) (retM (getV 2)))
def m_power : List D → Res D := runB 4 [] false b_power
def b_kind_of : M Fl := seqM (dropM (callM 2 [] m_need_move (consM (pureM (.str "move")) (consM (getV 0) (nilM))))) (seqM (ifM (truM (bin gEq (bin gIx (getV 0) (pureM (.int 0))) (pureM (.int 0)))) (retM (ifM (truM (bin gEq (getV 0) (pureM (.tup [.int 0, .int 0, .int 0])))) (pureM (.str "still")) (pureM (.str "shift")))) (nextM)) (seqM (ifM (truM (bin gLt (bin gIx (getV 0) (pureM (.int 0))) (pureM (.int 4)))) (retM (ifM (truM (bin gEq (bin gIx (getV 0) (pureM (.int 0))) (pureM (.int 2)))) (pureM (.str "half")) (pureM (.str "quarter")))) (nextM)) (retM (ifM (truM (bin gEq (callM 2 [] m_power (consM (getV 0) (consM (pureM (.int 2)) (nilM)))) (pureM (.tup [.int 0, .int 0, .int 0])))) (pureM (.str "mirror")) (pureM (.str "glide"))))))
def m_kind_of : List D → Res D := runB 1 [] false b_kind_of
def b_order_of : M Fl := retM (ifM (orT (truM (bin gGt (getV 0) (pureM (.int 3)))) (truM (bin gEq (getV 0) (pureM (.int 2))))) (pureM (.int 2)) (ifM (truM (bin gEq (getV 0) (pureM (.int 0)))) (pureM (.int 1)) (pureM (.int 4))))
def m_order_of : List D → Res D := runB 1 [] false b_order_of
def b_times : M Fl := seqM (dropM (callM 2 [] m_need_move (consM (pureM (.str "move")) (consM (getV 0) (nilM))))) (seqM (setM 1 (callM 1 [] m_order_of (consM (bin gIx (getV 0) (pureM (.int 0))) (nilM)))) (retM (ifM (truM (bin gEq (callM 2 [] m_power (consM (getV 0) (consM (getV 1) (nilM)))) (pureM (.tup [.int 0, .int 0, .int 0])))) (getV 1) (pureM .non))))
def m_times : List D → Res D := runB 2 [] false b_times
def b_centre_of : M Fl := seqM (dropM (callM 2 [] m_need_move (consM (pureM (.str "move")) (consM (getV 0) (nilM))))) (seqM (asgM (gUnp 3 (gsCons (gSet 1) (gsCons (gSet 2) (gsCons (gSet 3) (gsNil))))) (getV 0)) (seqM (ifM (truM (bin gEq (getV 1) (pureM (.int 2)))) (retM (appM gTup (consM (getV 2) (consM (getV 3) (nilM))))) (nextM)) (seqM (ifM (truM (bin gEq (getV 1) (pureM (.int 1)))) (retM (appM gTup (consM (bin gSubI (getV 2) (getV 3)) (consM (bin gAdd (getV 2) (getV 3)) (nilM))))) (nextM)) (retM (ifM (truM (bin gEq (getV 1) (pureM (.int 3)))) (appM gTup (consM (bin gAdd (getV 2) (getV 3)) (consM (bin gSubI (getV 3) (getV 2)) (nilM)))) (pureM .non))))))
def m_centre_of : List D → Res D := runB 4 [] false b_centre_of
def b_after : M Fl := seqM (dropM (callM 2 [] m_need_move (consM (pureM (.str "one")) (consM (getV 0) (nilM))))) (seqM (dropM (callM 2 [] m_need_move (consM (pureM (.str "other")) (consM (getV 1) (nilM))))) (retM (callM 2 [] m_product (consM (getV 0) (consM (getV 1) (nilM))))))
def m_after : List D → Res D := runB 2 [] false b_after
def b_undone_turn : M Fl := retM (ifM (truM (bin gGt (getV 0) (pureM (.int 3)))) (getV 0) (bin gMod (bin gSubI (pureM (.int 0)) (getV 0)) (pureM (.int 4))))
def m_undone_turn : List D → Res D := runB 1 [] false b_undone_turn
def b_inverse : M Fl := seqM (setM 1 (callM 1 [] m_undone_turn (consM (bin gIx (getV 0) (pureM (.int 0))) (nilM)))) (seqM (asgM (gUnp 2 (gsCons (gSet 2) (gsCons (gSet 3) (gsNil)))) (callM 2 [] m_taken (consM (getV 1) (consM (slcM (getV 0) (someO (pureM (.int 1))) (noO)) (nilM))))) (retM (appM gTup (consM (getV 1) (consM (bin gSubI (pureM (.int 0)) (getV 2)) (consM (bin gSubI (pureM (.int 0)) (getV 3)) (nilM)))))))
def m_inverse : List D → Res D := runB 4 [] false b_inverse
def b_back : M Fl := seqM (dropM (callM 2 [] m_need_move (consM (pureM (.str "move")) (consM (getV 0) (nilM))))) (retM (callM 1 [] m_inverse (consM (getV 0) (nilM))))
def m_back : List D → Res D := runB 1 [] false b_back
def b__law_kind_of : M Fl := seqM (setM 1 (callM 2 [] m__law_after (consM (getV 0) (consM (getV 0) (nilM))))) (seqM (ifM (truM (bin gEq (bin gIx (getV 0) (pureM (.int 0))) (pureM (.int 0)))) (retM (ifM (truM (bin gEq (getV 0) (appM gTup (consM (pureM (.int 0)) (consM (pureM (.int 0)) (consM (pureM (.int 0)) (nilM))))))) (pureM (.str "still")) (pureM (.str "shift")))) (nextM)) (seqM (ifM (truM (bin gGt (bin gIx (getV 0) (pureM (.int 0))) (pureM (.int 3)))) (retM (ifM (truM (bin gEq (getV 1) (appM gTup (consM (pureM (.int 0)) (consM (pureM (.int 0)) (consM (pureM (.int 0)) (nilM))))))) (pureM (.str "mirror")) (pureM (.str "glide")))) (nextM)) (retM (ifM (truM (bin gEq (getV 1) (appM gTup (consM (pureM (.int 0)) (consM (pureM (.int 0)) (consM (pureM (.int 0)) (nilM))))))) (pureM (.str "half")) (pureM (.str "quarter"))))))
def m__law_kind_of : List D → Res D := runB 2 [] false b__law_kind_of
def b_conjugate : M Fl := retM (callM 2 [] m_product (consM (callM 2 [] m_product (consM (getV 0) (consM (getV 1) (nilM)))) (consM (callM 1 [] m_inverse (consM (getV 0) (nilM))) (nilM))))
def m_conjugate : List D → Res D := runB 2 [] false b_conjugate
def b_seen_from : M Fl := seqM (dropM (callM 2 [] m_need_move (consM (pureM (.str "move")) (consM (getV 0) (nilM))))) (seqM (dropM (callM 2 [] m_need_move (consM (pureM (.str "other")) (consM (getV 1) (nilM))))) (retM (callM 2 [] m_conjugate (consM (getV 0) (consM (getV 1) (nilM))))))
def m_seen_from : List D → Res D := runB 2 [] false b_seen_from
def b_repeated : M Fl := seqM (dropM (callM 2 [] m_need_move (consM (pureM (.str "move")) (consM (getV 0) (nilM))))) (seqM (ifM (notT (truM (callM 3 [] m_is_between (consM (getV 1) (consM (pureM (.int 0)) (consM (pureM (.int 1000)) (nilM))))))) (failM) (nextM)) (retM (callM 2 [] m_power (consM (getV 0) (consM (getV 1) (nilM))))))
def m_repeated : List D → Res D := runB 2 [] false b_repeated
def l0_law : M Fl := setM 8 (callM 2 [] m__law_after (consM (getV 3) (consM (getV 8) (nilM))))
def l1_law : M Fl := seqM (parM3 3 4 5 (consM (callP 1 [] m__law_move 1 (consM (pureM (.int 50)) (nilM))) (consM (callP 1 [] m__law_move 1 (consM (pureM (.int 50)) (nilM))) (consM (callP 1 [] m__law_move 1 (consM (pureM (.int 50)) (nilM))) (nilM))))) (seqM (ifM (orT (truM (bin gNe (callM 2 [] m_after (consM (callM 2 [] m_after (consM (getV 3) (consM (getV 4) (nilM)))) (consM (getV 5) (nilM)))) (callM 2 [] m_after (consM (getV 3) (consM (callM 2 [] m_after (consM (getV 4) (consM (getV 5) (nilM)))) (nilM)))))) (orT (truM (bin gNe (callM 2 [] m_after (consM (getV 3) (consM (pureM (.tup [.int 0, .int 0, .int 0])) (nilM)))) (getV 3))) (truM (bin gNe (callM 2 [] m_after (consM (pureM (.tup [.int 0, .int 0, .int 0])) (consM (getV 3) (nilM)))) (getV 3))))) (retM (pureM (.bl false))) (nextM)) (seqM (ifM (orT (truM (bin gNe (callM 2 [] m_after (consM (getV 3) (consM (callM 1 [] m_back (consM (getV 3) (nilM))) (nilM)))) (pureM (.tup [.int 0, .int 0, .int 0])))) (orT (truM (bin gNe (callM 2 [] m_after (consM (callM 1 [] m_back (consM (getV 3) (nilM))) (consM (getV 3) (nilM)))) (pureM (.tup [.int 0, .int 0, .int 0])))) (truM (bin gNe (callM 1 [] m_back (consM (callM 2 [] m_after (consM (getV 3) (consM (getV 4) (nilM)))) (nilM))) (callM 2 [] m_after (consM (callM 1 [] m_back (consM (getV 4) (nilM))) (consM (callM 1 [] m_back (consM (getV 3) (nilM))) (nilM)))))))) (retM (pureM (.bl false))) (nextM)) (seqM (setM 6 (callM 2 [] m__law_after (consM (callM 2 [] m__law_after (consM (getV 3) (consM (getV 4) (nilM)))) (consM (callM 1 [] m__law_back (consM (getV 3) (nilM))) (nilM))))) (seqM (ifM (truM (bin gNe (appM gRepr (consM (appM gLst (consM (callM 2 [] m_seen_from (consM (getV 3) (consM (getV 4) (nilM)))) (consM (callM 2 [] (fun ds => m_seen_from (byIx [1, 0] ds)) (consM (getV 4) (consM (getV 3) (nilM)))) (nilM)))) (nilM))) (appM gRepr (consM (appM gLst (consM (getV 6) (consM (getV 6) (nilM)))) (nilM))))) (retM (pureM (.bl false))) (nextM)) (seqM (parM 7 8 (consM (callP 1 [] m__law_pick 1 (consM (appM gLst (consM (callP 1 [] m__law_draw 1 (consM (pureM (.int 9)) (nilM))) (consM (callP 1 [] m__law_draw 1 (consM (pureM (.int 9)) (nilM))) (consM (bin gSubI (pureM (.int 1000)) (callP 1 [] m__law_draw 1 (consM (pureM (.int 900)) (nilM)))) (nilM))))) (nilM))) (consM (appM gTup (consM (pureM (.int 0)) (consM (pureM (.int 0)) (consM (pureM (.int 0)) (nilM))))) (nilM)))) (seqM (forS (ofArgs rng1 (consM (getV 7) (nilM))) (gSet 9) l0_law) (seqM (ifM (truM (bin gNe (appM gRepr (consM (appM gLst (consM (callM 2 [] m_repeated (consM (getV 3) (consM (getV 7) (nilM)))) (consM (callM 2 [] (fun ds => m_repeated (byIx [1, 0] ds)) (consM (getV 7) (consM (getV 3) (nilM)))) (nilM)))) (nilM))) (appM gRepr (consM (appM gLst (consM (getV 8) (consM (getV 8) (nilM)))) (nilM))))) (retM (pureM (.bl false))) (nextM)) (seqM (setM 10 (callP 1 [] m__law_move 1 (consM (pureM (.int 2)) (nilM)))) (seqM (setM 11 (lcM [9] (ofArgs rng2 (consM (pureM (.int 1)) (consM (pureM (.int 5)) (nilM)))) (gSet 9) (truM (bin gEq (callM 2 [] m_repeated (consM (getV 10) (consM (getV 9) (nilM)))) (pureM (.tup [.int 0, .int 0, .int 0])))) (getV 9))) (seqM (ifM (orT (truM (bin gNe (appM gRepr (consM (appM gLst (consM (callM 1 [] m_times (consM (getV 10) (nilM))) (consM (callM 1 [] (fun ds => m_times (byIx [0] ds)) (consM (getV 10) (nilM))) (nilM)))) (nilM))) (appM gRepr (consM (bin gMul (appM gLst (consM (ifM (truM (bin gNe (getV 11) (appM gLst (nilM)))) (bin gIx (getV 11) (pureM (.int 0))) (pureM .non)) (nilM))) (pureM (.int 2))) (nilM))))) (orT (truM (bin gNe (callM 1 [] m_kind_of (consM (getV 10) (nilM))) (callM 1 [] m__law_kind_of (consM (getV 10) (nilM))))) (truM (bin gNe (callM 1 [] (fun ds => m_kind_of (byIx [0] ds)) (consM (getV 3) (nilM))) (callM 1 [] m__law_kind_of (consM (getV 3) (nilM))))))) (retM (pureM (.bl false))) (nextM)) (seqM (setM 12 (ifM (truM (bin gIn (bin gIx (getV 10) (pureM (.int 0))) (appM gTup (consM (pureM (.int 1)) (consM (pureM (.int 2)) (consM (pureM (.int 3)) (nilM))))))) (callM 1 [] m__law_still_points (consM (getV 10) (nilM))) (appM gLst (consM (pureM .non) (nilM))))) (ifM (orT (truM (bin gNe (appM gRepr (consM (getV 12) (nilM))) (appM gRepr (consM (appM gLst (consM (callM 1 [] m_centre_of (consM (getV 10) (nilM))) (nilM))) (nilM))))) (truM (bin gNe (callM 1 [] (fun ds => m_centre_of (byIx [0] ds)) (consM (getV 10) (nilM))) (callM 1 [] m_centre_of (consM (getV 10) (nilM)))))) (retM (pureM (.bl false))) (nextM)))))))))))))
def b_law : M Fl := seqM (setM 1 (callM 1 [] m__law_pen (consM (getV 0) (nilM)))) (seqM (forS (ofArgs rng1 (consM (pureM (.int 6)) (nilM))) (gSet 2) l1_law) (retM (andM (bin gEq (callM 1 [] m_kind_of (consM (pureM (.tup [.int 0, .int 0, .int 0])) (nilM))) (pureM (.str "still"))) (andM (bin gEq (callM 1 [] m_times (consM (pureM (.tup [.int 0, .int 0, .int 0])) (nilM))) (pureM (.int 1))) (bin gIsN (callM 1 [] m_centre_of (consM (pureM (.tup [.int 0, .int 0, .int 0])) (nilM))) (pureM .non))))))
def m_law : List D → Res D := runB 13 [] false b_law
end
end Gk01
namespace Gk01
open PySem PySem.Spec PyProof.Rows L2 DL
section
variable {P : Program} {w : World} {K : Fg} {mg : Str → Option Value} {base : Heap}
theorem sc__law_pen : FnScope ["script", "cell"] ["script"] (defScope s__law_pen) := ⟨rfl, rfl, rfl, by decide +kernel, rfl, by decide +kernel, by decide +kernel⟩
theorem ok__law_pen {fd : FuncData} (Fn : FunD K "_law_pen" "_law_pen" (defArgs s__law_pen) (defBody s__law_pen) (defScope s__law_pen) [] [] (He.ga K "_law_pen") fd) (m_int : mg "int" = none) : FnG P w K mg base 1 (He.ga K "_law_pen") fd ["script"] (spF K mg 1 (.lst .fz) m__law_pen) :=
  fnFD (ω' := []) false Fn sc__law_pen fun cdv A outer s H E hr gd => (dss_one (ds_ret (wk_fzs _) .nil (de_lstO (da_cons (de_fz (de_lc (own := [("cell", 1)]) rfl sc__law_pen.nd (hv_cons rfl hv_nil) (di_seq (de_slice (de_var (i := 0) rfl (pv 0)) do_none (do_some de_int))) (blkOk_by (by rfl)) (fun s' H' C' cl fp => (dg_name (i := 1) rfl (pg_name (i := 1) sc__law_pen.nd rfl (by first | exact .inl rfl | exact .inr rfl)))) (fun s' H' C' cl fp => dts_nil) (fun s' H' C' cl fp => (dty cd_int m_int bt_int (da_cons (de_var (i := 1) rfl (pv 1)) da_nil))))) (da_cons de_int (da_cons de_int da_nil))))))
theorem sc__law_by_cells : FnScope ["origin", "right", "up", "steps", "some"] ["origin", "right", "up"] (defScope s__law_by_cells) := ⟨rfl, rfl, rfl, by decide +kernel, rfl, by decide +kernel, by decide +kernel⟩
theorem ok__law_by_cells {fd : FuncData} (Fn : FunD K "_law_by_cells" "_law_by_cells" (defArgs s__law_by_cells) (defBody s__law_by_cells) (defScope s__law_by_cells) [] [] (He.ga K "_law_by_cells") fd)  : FnG P w K mg base 1 (He.ga K "_law_by_cells") fd ["origin", "right", "up"] (spF K mg 3 (.fz) m__law_by_cells) :=
  fnFD (ω' := []) false Fn sc__law_by_cells fun cdv A outer s H E hr gd => (dss_cons (ds_set (i := 3) (wk_fzs _) sc__law_by_cells.nd rfl (by first | exact .inl rfl | exact .inr rfl) (de_lst (da_cons (de_tup (da_cons (de_op od_sub (de_ix (de_var (i := 1) rfl (pv 1)) de_int (fun _ _ => rfl)) (de_ix (de_var (i := 0) rfl (pv 0)) de_int (fun _ _ => rfl))) (da_cons (de_op od_sub (de_ix (de_var (i := 1) rfl (pv 1)) de_int (fun _ _ => rfl)) (de_ix (de_var (i := 0) rfl (pv 0)) de_int (fun _ _ => rfl))) da_nil))) (da_cons (de_tup (da_cons (de_op od_sub (de_ix (de_var (i := 2) rfl (pv 2)) de_int (fun _ _ => rfl)) (de_ix (de_var (i := 0) rfl (pv 0)) de_int (fun _ _ => rfl))) (da_cons (de_op od_sub (de_ix (de_var (i := 2) rfl (pv 2)) de_int (fun _ _ => rfl)) (de_ix (de_var (i := 0) rfl (pv 0)) de_int (fun _ _ => rfl))) da_nil))) da_nil)))) (dss_cons (ds_set (i := 4) (wk_fzs _) sc__law_by_cells.nd rfl (by first | exact .inl rfl | exact .inr rfl) (de_lst (da_cons (de_lst (da_cons (de_tup (da_cons de_int (da_cons de_int da_nil))) (da_cons (de_tup (da_cons de_int (da_cons de_int da_nil))) da_nil))) (da_cons (de_lst (da_cons (de_tup (da_cons de_int (da_cons de_int da_nil))) (da_cons (de_tup (da_cons (de_un ud_neg de_int) (da_cons de_int da_nil))) da_nil))) (da_cons (de_lst (da_cons (de_tup (da_cons (de_un ud_neg de_int) (da_cons de_int da_nil))) (da_cons (de_tup (da_cons de_int (da_cons (de_un ud_neg de_int) da_nil))) da_nil))) (da_cons (de_lst (da_cons (de_tup (da_cons de_int (da_cons (de_un ud_neg de_int) da_nil))) (da_cons (de_tup (da_cons de_int (da_cons de_int da_nil))) da_nil))) da_nil)))))) (dss_cons (ds_set (i := 4) (wk_fzs _) sc__law_by_cells.nd rfl (by first | exact .inl rfl | exact .inr rfl) (de_op od_add (de_var (i := 4) rfl (pv 4)) (de_lst (da_cons (de_lst (da_cons (de_tup (da_cons (de_un ud_neg de_int) (da_cons de_int da_nil))) (da_cons (de_tup (da_cons de_int (da_cons de_int da_nil))) da_nil))) (da_cons (de_lst (da_cons (de_tup (da_cons de_int (da_cons (de_un ud_neg de_int) da_nil))) (da_cons (de_tup (da_cons (de_un ud_neg de_int) (da_cons de_int da_nil))) da_nil))) (da_cons (de_lst (da_cons (de_tup (da_cons de_int (da_cons de_int da_nil))) (da_cons (de_tup (da_cons de_int (da_cons (de_un ud_neg de_int) da_nil))) da_nil))) (da_cons (de_lst (da_cons (de_tup (da_cons de_int (da_cons de_int da_nil))) (da_cons (de_tup (da_cons de_int (da_cons de_int da_nil))) da_nil))) da_nil))))))) (dss_one (ds_ret (wk_fzs _) .nil (de_tup (da_cons (de_bm PySem.F.plainAttrs_list PySem.F.slot_list_index PySem.F.type_list_index (md_index (hu65 hr)) (de_var (i := 4) rfl (pv 4)) (da_cons (de_var (i := 3) rfl (pv 3)) da_nil)) (da_cons (de_ix (de_var (i := 0) rfl (pv 0)) de_int (fun _ _ => rfl)) (da_cons (de_ix (de_var (i := 0) rfl (pv 0)) de_int (fun _ _ => rfl)) da_nil)))))))))
theorem sc__law_turned : FnScope ["turn", "cell", "x", "y", "lap"] ["turn", "cell"] (defScope s__law_turned) := ⟨rfl, rfl, rfl, by decide +kernel, rfl, by decide +kernel, by decide +kernel⟩
theorem ok__law_turned {fd : FuncData} (Fn : FunD K "_law_turned" "_law_turned" (defArgs s__law_turned) (defBody s__law_turned) (defScope s__law_turned) [] [] (He.ga K "_law_turned") fd) (m_int : mg "int" = none) (m_range : mg "range" = none) : FnG P w K mg base 1 (He.ga K "_law_turned") fd ["turn", "cell"] (spF K mg 2 (.fz) m__law_turned) :=
  fnFD (ω' := []) false Fn sc__law_turned fun cdv A outer s H E hr gd => (dss_cons (ds_asg (vs := [2, 3]) (wk_fzs _) (de_var (i := 1) rfl (pv 1)) (dg_tup rfl (dgs_cons (dg_name (i := 2) rfl (pg_name (i := 2) sc__law_turned.nd rfl (by first | exact .inl rfl | exact .inr rfl))) (dgs_cons (dg_name (i := 3) rfl (pg_name (i := 3) sc__law_turned.nd rfl (by first | exact .inl rfl | exact .inr rfl))) dgs_nil)))) (dss_cons (ds_if (wk_fzs _) (dt_cmp od_gt (de_var (i := 0) rfl (pv 0)) de_int (nomark _)) (dss_one (ds_set (i := 2) (wk_fzs _) sc__law_turned.nd rfl (by first | exact .inl rfl | exact .inr rfl) (de_op od_sub de_int (de_var (i := 2) rfl (pv 2))))) dss_nil) (dss_cons (ds_for (vs := [4]) (wk_fzs _) passB rfl (di_rng1 rfl m_range (da_cons (de_op od_mod (dty cd_int m_int bt_int (da_cons (de_var (i := 0) rfl (pv 0)) da_nil)) de_int) da_nil)) (dg_name (i := 4) rfl (pg_name (i := 4) sc__law_turned.nd rfl (by first | exact .inl rfl | exact .inr rfl))) (dss_one (ds_par2 (i := 2) (j := 3) (wk_fzs _) rfl rfl rfl sc__law_turned.nd (da_cons (de_op od_sub de_int (de_var (i := 3) rfl (pv 3))) (da_cons (de_var (i := 2) rfl (pv 2)) da_nil))))) (dss_one (ds_ret (wk_fzs _) .nil (de_tup (da_cons (de_var (i := 2) rfl (pv 2)) (da_cons (de_var (i := 3) rfl (pv 3)) da_nil))))))))
theorem sc__law_put : FnScope ["move", "cell", "x", "y"] ["move", "cell"] (defScope s__law_put) := ⟨rfl, rfl, rfl, by decide +kernel, rfl, by decide +kernel, by decide +kernel⟩
theorem ok__law_put {fd f__law_turned : FuncData} (Fn : FunD K "_law_put" "_law_put" (defArgs s__law_put) (defBody s__law_put) (defScope s__law_put) [] [] (He.ga K "_law_put") fd) (c__law_turned : Got P w K mg base 1 f__law_turned "_law_turned" ["turn", "cell"] (spF K mg 2 (.fz) m__law_turned)) : FnG P w K mg base 2 (He.ga K "_law_put") fd ["move", "cell"] (spF K mg 2 (.fz) m__law_put) :=
  fnFD (ω' := []) false Fn sc__law_put fun cdv A outer s H E hr gd => (dss_cons (ds_asg (vs := [2, 3]) (wk_fzs _) (dc c__law_turned (hr.mono (by decide : 1 ≤ 1)) gd letsB (da_cons (de_ix (de_var (i := 0) rfl (pv 0)) de_int (fun _ _ => rfl)) (da_cons (de_var (i := 1) rfl (pv 1)) da_nil))) (dg_tup rfl (dgs_cons (dg_name (i := 2) rfl (pg_name (i := 2) sc__law_put.nd rfl (by first | exact .inl rfl | exact .inr rfl))) (dgs_cons (dg_name (i := 3) rfl (pg_name (i := 3) sc__law_put.nd rfl (by first | exact .inl rfl | exact .inr rfl))) dgs_nil)))) (dss_one (ds_ret (wk_fzs _) .nil (de_tup (da_cons (de_op od_add (de_var (i := 2) rfl (pv 2)) (de_ix (de_var (i := 0) rfl (pv 0)) de_int (fun _ _ => rfl))) (da_cons (de_op od_add (de_var (i := 3) rfl (pv 3)) (de_ix (de_var (i := 0) rfl (pv 0)) de_int (fun _ _ => rfl))) da_nil))))))
theorem sc__law_after : FnScope ["one", "other", "cells", "cell"] ["one", "other"] (defScope s__law_after) := ⟨rfl, rfl, rfl, by decide +kernel, rfl, by decide +kernel, by decide +kernel⟩
theorem ok__law_after {fd f__law_put f__law_by_cells : FuncData} (Fn : FunD K "_law_after" "_law_after" (defArgs s__law_after) (defBody s__law_after) (defScope s__law_after) [] [] (He.ga K "_law_after") fd) (c__law_put : Got P w K mg base 2 f__law_put "_law_put" ["move", "cell"] (spF K mg 2 (.fz) m__law_put)) (c__law_by_cells : Got P w K mg base 1 f__law_by_cells "_law_by_cells" ["origin", "right", "up"] (spF K mg 3 (.fz) m__law_by_cells)) : FnG P w K mg base 3 (He.ga K "_law_after") fd ["one", "other"] (spF K mg 2 (.fz) m__law_after) :=
  fnFD (ω' := []) false Fn sc__law_after fun cdv A outer s H E hr gd => (dss_cons (ds_setLc (i := 2) (own := [("cell", 3)]) (wk_fzs _) rfl sc__law_after.nd rfl rfl rfl (hv_cons rfl hv_nil) (di_seq (de_tup (da_cons (de_tup (da_cons de_int (da_cons de_int da_nil))) (da_cons (de_tup (da_cons de_int (da_cons de_int da_nil))) (da_cons (de_tup (da_cons de_int (da_cons de_int da_nil))) da_nil))))) (blkOk_by (by rfl)) (fun s' H' C' cl fp => (dg_name (i := 3) rfl (pg_name (i := 3) sc__law_after.nd rfl (by first | exact .inl rfl | exact .inr rfl)))) (fun s' H' C' cl fp => dts_nil) (fun s' H' C' cl fp => (dc c__law_put (hr.mono (by decide : 2 ≤ 2)) gd lets0 (da_cons (de_var (i := 0) rfl (pv 0)) (da_cons (dc c__law_put (hr.mono (by decide : 2 ≤ 2)) gd lets0 (da_cons (de_var (i := 1) rfl (pv 1)) (da_cons (de_var (i := 3) rfl (pv 3)) da_nil))) da_nil))))) (dss_wk (.fz (.fz (.fz (.fz .nil)))) (dss_one (ds_ret (wk_fzs _) .nil (dc c__law_by_cells (hr.mono (by decide : 1 ≤ 2)) gd letsB (da_cons (de_ix (de_var (i := 2) rfl (pv 2)) de_int (fun _ _ => rfl)) (da_cons (de_ix (de_var (i := 2) rfl (pv 2)) de_int (fun _ _ => rfl)) (da_cons (de_ix (de_var (i := 2) rfl (pv 2)) de_int (fun _ _ => rfl)) da_nil))))))))
theorem sc__law_draw : FnScope ["pen", "many", "rest", "at", "cell", "mixed"] ["pen", "many"] (defScope s__law_draw) := ⟨rfl, rfl, rfl, by decide +kernel, rfl, by decide +kernel, by decide +kernel⟩
theorem ok__law_draw {fd : FuncData} (Fn : FunD K "_law_draw" "_law_draw" (defArgs s__law_draw) (defBody s__law_draw) (defScope s__law_draw) [] [] (He.ga K "_law_draw") fd) (m_int : mg "int" = none) (m_len : mg "len" = none) (m_abs : mg "abs" = none) : FnG P w K mg base 1 (He.ga K "_law_draw") fd ["pen", "many"] (spP K mg 1 (.fz) m__law_draw) :=
  fnPD (ω' := fun _ => []) Fn sc__law_draw fun cdv A outer s H E a hr gd => (dss_cons (ds_if (wk_fzs _) (dt_cmp od_gt (de_ixo (i := 0) rfl rfl (pv 0) de_int (fun _ _ => rfl)) de_int (nomark _)) (dss_cons (ds_set (i := 2) (wk_fzs _) sc__law_draw.nd rfl (by first | exact .inl rfl | exact .inr rfl) (dty cd_int m_int bt_int (da_cons (de_ixo (i := 0) rfl rfl (pv 0) de_int (fun _ _ => rfl)) da_nil))) (dss_cons (ds_setIx (i := 0) (wk_fzs _) rfl rfl (pv 0) (de_op od_divW (de_var (i := 2) rfl (pv 2)) (de_var (i := 1) rfl (pv 1))) de_int (by intro _; rfl)) (dss_one (ds_ret (wk_fzs _) (.pin .nil) (de_op od_mod (dty cd_int m_int bt_int (da_cons (de_var (i := 2) rfl (pv 2)) da_nil)) (de_var (i := 1) rfl (pv 1))))))) dss_nil) (dss_cons (ds_set (i := 3) (wk_fzs _) sc__law_draw.nd rfl (by first | exact .inl rfl | exact .inr rfl) (de_ixo (i := 0) rfl rfl (pv 0) de_int (fun _ _ => rfl))) (dss_cons (ds_setIx (i := 0) (wk_fzs _) rfl rfl (pv 0) (de_op od_add (de_var (i := 3) rfl (pv 3)) de_int) de_int (by intro _; rfl)) (dss_cons (ds_set (i := 4) (wk_fzs _) sc__law_draw.nd rfl (by first | exact .inl rfl | exact .inr rfl) (de_op od_add (de_op od_mul de_int (de_var (i := 3) rfl (pv 3))) de_int)) (dss_cons (ds_if (wk_fzs _) (dt_cmp (od_ne hr.units) (de_ixo (i := 0) rfl rfl (pv 0) de_int (fun _ _ => rfl)) (de_lst da_nil) (nomark _)) (dss_one (ds_set (i := 4) (wk_fzs _) sc__law_draw.nd rfl (by first | exact .inl rfl | exact .inr rfl) (de_ix (de_ixo (i := 0) rfl rfl (pv 0) de_int (fun _ _ => rfl)) (de_op od_mod (dty cd_int m_int bt_int (da_cons (de_var (i := 3) rfl (pv 3)) da_nil)) (db cd_len m_len bt_len (da_cons (de_ixo (i := 0) rfl rfl (pv 0) de_int (fun _ _ => rfl)) da_nil))) (fun _ _ => rfl)))) dss_nil) (dss_cons (ds_if (wk_fzs _) (DW.dt (dw_and (dt_cmp od_lt (de_var (i := 3) rfl (pv 3)) (db cd_len m_len bt_len (da_cons (de_ixo (i := 0) rfl rfl (pv 0) de_int (fun _ _ => rfl)) da_nil)) (nomark _)) (dw_and1 (dt_cmp od_ge (db cd_abs m_abs bt_abs (da_cons (de_var (i := 4) rfl (pv 4)) da_nil)) (de_op od_pow de_int de_int) (nomark _))))) (dss_cons (ds_set (i := 2) (wk_fzs _) sc__law_draw.nd rfl (by first | exact .inl rfl | exact .inr rfl) (de_op od_add (de_op od_mul de_int (de_op od_sub (db cd_abs m_abs bt_abs (da_cons (de_var (i := 4) rfl (pv 4)) da_nil)) (de_op od_pow de_int de_int))) (dty cd_int m_int bt_int (da_cons (de_cmp od_lt (de_var (i := 4) rfl (pv 4)) de_int (nomark _)) da_nil)))) (dss_cons (ds_setIx (i := 0) (wk_fzs _) rfl rfl (pv 0) (de_op od_divW (dty cd_int m_int bt_int (da_cons (de_var (i := 2) rfl (pv 2)) da_nil)) (de_var (i := 1) rfl (pv 1))) de_int (by intro _; rfl)) (dss_one (ds_ret (wk_fzs _) (.pin .nil) (de_op od_mod (dty cd_int m_int bt_int (da_cons (de_var (i := 2) rfl (pv 2)) da_nil)) (de_var (i := 1) rfl (pv 1))))))) dss_nil) (dss_cons (ds_set (i := 5) (wk_fzs _) sc__law_draw.nd rfl (by first | exact .inl rfl | exact .inr rfl) (de_op od_mod (dty cd_int m_int bt_int (da_cons (de_op od_pow (de_op od_add (de_op od_add (de_op od_mod (dty cd_int m_int bt_int (da_cons (de_var (i := 4) rfl (pv 4)) da_nil)) de_int) (de_op od_mul de_int (de_var (i := 3) rfl (pv 3)))) de_int) de_int) da_nil)) de_int)) (dss_cons (ds_set (i := 5) (wk_fzs _) sc__law_draw.nd rfl (by first | exact .inl rfl | exact .inr rfl) (de_op od_mod (dty cd_int m_int bt_int (da_cons (de_op od_pow (de_op od_add (de_op od_add (de_op od_mul (de_var (i := 5) rfl (pv 5)) (de_op od_add (de_op od_mul de_int (de_var (i := 3) rfl (pv 3))) de_int)) (de_op od_mul (de_op od_mul de_int (de_var (i := 3) rfl (pv 3))) (de_var (i := 3) rfl (pv 3)))) de_int) de_int) da_nil)) de_int)) (dss_one (ds_ret (wk_fzs _) (.pin .nil) (de_op od_mod (dty cd_int m_int bt_int (da_cons (de_op od_divW (de_var (i := 5) rfl (pv 5)) de_int) da_nil)) (de_var (i := 1) rfl (pv 1)))))))))))))
theorem sc__law_move : FnScope ["pen", "far"] ["pen", "far"] (defScope s__law_move) := ⟨rfl, rfl, rfl, by decide +kernel, rfl, by decide +kernel, by decide +kernel⟩
theorem ok__law_move {fd f__law_draw : FuncData} (Fn : FunD K "_law_move" "_law_move" (defArgs s__law_move) (defBody s__law_move) (defScope s__law_move) [] [] (He.ga K "_law_move") fd) (c__law_draw : Got P w K mg base 1 f__law_draw "_law_draw" ["pen", "many"] (spP K mg 1 (.fz) m__law_draw)) : FnG P w K mg base 2 (He.ga K "_law_move") fd ["pen", "far"] (spP K mg 1 (.fz) m__law_move) :=
  fnPD (ω' := fun _ => []) Fn sc__law_move fun cdv A outer s H E a hr gd => (dss_one (ds_ret (wk_fzs _) (.pin .nil) (de_tup (da_cons (dcP c__law_draw (hr.mono (by decide : 1 ≤ 1)) gd letsB (i := 0) rfl rfl (pv 0) (da_cons de_int da_nil)) (da_cons (de_op od_sub (dcP c__law_draw (hr.mono (by decide : 1 ≤ 1)) gd letsB (i := 0) rfl rfl (pv 0) (da_cons (de_op od_add (de_op od_mul de_int (de_var (i := 1) rfl (pv 1))) de_int) da_nil)) (de_var (i := 1) rfl (pv 1))) (da_cons (de_op od_sub (dcP c__law_draw (hr.mono (by decide : 1 ≤ 1)) gd letsB (i := 0) rfl rfl (pv 0) (da_cons (de_op od_add (de_op od_mul de_int (de_var (i := 1) rfl (pv 1))) de_int) da_nil)) (de_var (i := 1) rfl (pv 1))) da_nil))))))
theorem sc__law_back : FnScope ["move", "turn", "x", "y", "one", "cell"] ["move"] (defScope s__law_back) := ⟨rfl, rfl, rfl, by decide +kernel, rfl, by decide +kernel, by decide +kernel⟩
theorem ok__law_back {fd f__law_turned : FuncData} (Fn : FunD K "_law_back" "_law_back" (defArgs s__law_back) (defBody s__law_back) (defScope s__law_back) [] [] (He.ga K "_law_back") fd) (m_range : mg "range" = none) (c__law_turned : Got P w K mg base 1 f__law_turned "_law_turned" ["turn", "cell"] (spF K mg 2 (.fz) m__law_turned)) : FnG P w K mg base 2 (He.ga K "_law_back") fd ["move"] (spF K mg 1 (.fz) m__law_back) :=
  fnFD (ω' := []) false Fn sc__law_back fun cdv A outer s H E hr gd => (dss_cons (ds_set (i := 1) (wk_fzs _) sc__law_back.nd rfl (by first | exact .inl rfl | exact .inr rfl) (de_ix (de_fz (de_lc (own := [("one", 4)]) rfl sc__law_back.nd (hv_cons rfl hv_nil) (di_rng1 rfl m_range (da_cons de_int da_nil)) (blkOk_by (by rfl)) (fun s' H' C' cl fp => (dg_name (i := 4) rfl (pg_name (i := 4) sc__law_back.nd rfl (by first | exact .inl rfl | exact .inr rfl)))) (fun s' H' C' cl fp => (dts_one (dt_cmp (od_eq hr.units) (de_fz (de_lc (own := [("cell", 5)]) rfl sc__law_back.nd (hv_cons rfl hv_nil) (di_seq (de_tup (da_cons (de_tup (da_cons de_int (da_cons de_int da_nil))) (da_cons (de_tup (da_cons de_int (da_cons de_int da_nil))) da_nil)))) (blkOk_by (by rfl)) (fun s' H' C' cl fp => (dg_name (i := 5) rfl (pg_name (i := 5) sc__law_back.nd rfl (by first | exact .inl rfl | exact .inr rfl)))) (fun s' H' C' cl fp => dts_nil) (fun s' H' C' cl fp => (dc c__law_turned (hr.mono (by decide : 1 ≤ 1)) gd lets0 (da_cons (de_var (i := 4) rfl (pv 4)) (da_cons (dc c__law_turned (hr.mono (by decide : 1 ≤ 1)) gd lets0 (da_cons (de_ix (de_var (i := 0) rfl (pv 0)) de_int (fun _ _ => rfl)) (da_cons (de_var (i := 5) rfl (pv 5)) da_nil))) da_nil)))))) (de_lst (da_cons (de_tup (da_cons de_int (da_cons de_int da_nil))) (da_cons (de_tup (da_cons de_int (da_cons de_int da_nil))) da_nil))) (nomark _)))) (fun s' H' C' cl fp => (de_var (i := 4) rfl (pv 4))))) de_int (fun _ _ => rfl))) (dss_cons (ds_asg (vs := [2, 3]) (wk_fzs _) (dc c__law_turned (hr.mono (by decide : 1 ≤ 1)) gd letsB (da_cons (de_var (i := 1) rfl (pv 1)) (da_cons (de_tup (da_cons (de_ix (de_var (i := 0) rfl (pv 0)) de_int (fun _ _ => rfl)) (da_cons (de_ix (de_var (i := 0) rfl (pv 0)) de_int (fun _ _ => rfl)) da_nil))) da_nil))) (dg_tup rfl (dgs_cons (dg_name (i := 2) rfl (pg_name (i := 2) sc__law_back.nd rfl (by first | exact .inl rfl | exact .inr rfl))) (dgs_cons (dg_name (i := 3) rfl (pg_name (i := 3) sc__law_back.nd rfl (by first | exact .inl rfl | exact .inr rfl))) dgs_nil)))) (dss_one (ds_ret (wk_fzs _) .nil (de_tup (da_cons (de_var (i := 1) rfl (pv 1)) (da_cons (de_op od_sub de_int (de_var (i := 2) rfl (pv 2))) (da_cons (de_op od_sub de_int (de_var (i := 3) rfl (pv 3))) da_nil))))))))
theorem sc__law_pick : FnScope ["pen", "some"] ["pen", "some"] (defScope s__law_pick) := ⟨rfl, rfl, rfl, by decide +kernel, rfl, by decide +kernel, by decide +kernel⟩
theorem ok__law_pick {fd f__law_draw : FuncData} (Fn : FunD K "_law_pick" "_law_pick" (defArgs s__law_pick) (defBody s__law_pick) (defScope s__law_pick) [] [] (He.ga K "_law_pick") fd) (c__law_draw : Got P w K mg base 1 f__law_draw "_law_draw" ["pen", "many"] (spP K mg 1 (.fz) m__law_draw)) (m_len : mg "len" = none) : FnG P w K mg base 2 (He.ga K "_law_pick") fd ["pen", "some"] (spP K mg 1 (.fz) m__law_pick) :=
  fnPD (ω' := fun _ => []) Fn sc__law_pick fun cdv A outer s H E a hr gd => (dss_one (ds_ret (wk_fzs _) (.pin .nil) (de_ix (de_var (i := 1) rfl (pv 1)) (dcP c__law_draw (hr.mono (by decide : 1 ≤ 1)) gd letsB (i := 0) rfl rfl (pv 0) (da_cons (db cd_len m_len bt_len (da_cons (de_var (i := 1) rfl (pv 1)) da_nil)) da_nil)) (fun _ _ => rfl))))
theorem sc__law_still_points : FnScope ["move", "found", "size", "x", "y", "far"] ["move"] (defScope s__law_still_points) := ⟨rfl, rfl, rfl, by decide +kernel, rfl, by decide +kernel, by decide +kernel⟩
theorem ok__law_still_points {fd f__law_turned : FuncData} (Fn : FunD K "_law_still_points" "_law_still_points" (defArgs s__law_still_points) (defBody s__law_still_points) (defScope s__law_still_points) [] [] (He.ga K "_law_still_points") fd) (m_abs : mg "abs" = none) (m_range : mg "range" = none) (c__law_turned : Got P w K mg base 1 f__law_turned "_law_turned" ["turn", "cell"] (spF K mg 2 (.fz) m__law_turned)) : FnG P w K mg base 2 (He.ga K "_law_still_points") fd ["move"] (spF K mg 1 (.fz) m__law_still_points) :=
  fnFD (ω' := []) false Fn sc__law_still_points fun cdv A outer s H E hr gd => (dss_cons (ds_parO2 (i := 1) (j := 2) (wk_fzs _) rfl sc__law_still_points.nd (de_lstO da_nil) (de_op od_add (de_op od_add (db cd_abs m_abs bt_abs (da_cons (de_ix (de_var (i := 0) rfl (pv 0)) de_int (fun _ _ => rfl)) da_nil)) (db cd_abs m_abs bt_abs (da_cons (de_ix (de_var (i := 0) rfl (pv 0)) de_int (fun _ _ => rfl)) da_nil))) de_int)) (dss_cons (ds_for (vs := [3]) (wk_fzs _) passB rfl (di_rng2 rfl m_range (da_cons (de_op od_sub de_int (de_var (i := 2) rfl (pv 2))) (da_cons (de_op od_add (de_var (i := 2) rfl (pv 2)) de_int) da_nil))) (dg_name (i := 3) rfl (pg_name (i := 3) sc__law_still_points.nd rfl (by first | exact .inl rfl | exact .inr rfl))) (dss_one (ds_for (vs := [4]) (wk_fzs _) passB rfl (di_rng2 rfl m_range (da_cons (de_op od_sub de_int (de_var (i := 2) rfl (pv 2))) (da_cons (de_op od_add (de_var (i := 2) rfl (pv 2)) de_int) da_nil))) (dg_name (i := 4) rfl (pg_name (i := 4) sc__law_still_points.nd rfl (by first | exact .inl rfl | exact .inr rfl))) (dss_cons (ds_set (i := 5) (wk_fzs _) sc__law_still_points.nd rfl (by first | exact .inl rfl | exact .inr rfl) (dc c__law_turned (hr.mono (by decide : 1 ≤ 1)) gd letsB (da_cons (de_ix (de_var (i := 0) rfl (pv 0)) de_int (fun _ _ => rfl)) (da_cons (de_tup (da_cons (de_var (i := 3) rfl (pv 3)) (da_cons (de_var (i := 4) rfl (pv 4)) da_nil))) da_nil)))) (dss_one (ds_if (wk_fzs _) (dt_cmp (od_eq hr.units) (de_tup (da_cons (de_op od_add (de_ix (de_var (i := 5) rfl (pv 5)) de_int (fun _ _ => rfl)) (de_op od_mul de_int (de_ix (de_var (i := 0) rfl (pv 0)) de_int (fun _ _ => rfl)))) (da_cons (de_op od_add (de_ix (de_var (i := 5) rfl (pv 5)) de_int (fun _ _ => rfl)) (de_op od_mul de_int (de_ix (de_var (i := 0) rfl (pv 0)) de_int (fun _ _ => rfl)))) da_nil))) (de_tup (da_cons (de_var (i := 3) rfl (pv 3)) (da_cons (de_var (i := 4) rfl (pv 4)) da_nil))) (nomark _)) (dss_one (ds_append (i := 1) (wk_fzs _) rfl rfl (r := rAppend) (ps_expr (pe_bm PySem.F.plainAttrs_list PySem.F.slot_list_append PySem.F.type_list_append mt_append (pv 1) (pa_cons (de_tup (da_cons (de_var (i := 3) rfl (pv 3)) (da_cons (de_var (i := 4) rfl (pv 4)) da_nil))) pa_nil))))) dss_nil)))))) (dss_wk (.fz (.fz (.fz (.fz (.fz (.fz .nil)))))) (dss_one (ds_ret (wk_fzs _) .nil (de_var (i := 1) rfl (pv 1)))))))
theorem sc_is_integer : FnScope ["value"] ["value"] (defScope s_is_integer) := ⟨rfl, rfl, rfl, by decide +kernel, rfl, by decide +kernel, by decide +kernel⟩
theorem ok_is_integer {fd : FuncData} (Fn : FunD K "is_integer" "is_integer" (defArgs s_is_integer) (defBody s_is_integer) (defScope s_is_integer) [] [] (He.ga K "is_integer") fd) (m_isinstance : mg "isinstance" = none) (m_int : mg "int" = none) (m_bool : mg "bool" = none) : FnG P w K mg base 1 (He.ga K "is_integer") fd ["value"] (spF K mg 1 (.fz) m_is_integer) :=
  fnFD (ω' := []) false Fn sc_is_integer fun cdv A outer s H E hr gd => (dss_one (ds_ret (wk_fzs _) .nil (de_and (de_isi (T := "int") rfl m_isinstance (de_var (i := 0) rfl (pv 0)) (pe_bltn rfl m_int (bt_int) rfl)) (de_one (de_not (de_isi (T := "bool") rfl m_isinstance (de_var (i := 0) rfl (pv 0)) (pe_bltn rfl m_bool (bt_bool) rfl)))))))
theorem sc_is_between : FnScope ["value", "least", "most"] ["value", "least", "most"] (defScope s_is_between) := ⟨rfl, rfl, rfl, by decide +kernel, rfl, by decide +kernel, by decide +kernel⟩
theorem ok_is_between {fd f_is_integer : FuncData} (Fn : FunD K "is_between" "is_between" (defArgs s_is_between) (defBody s_is_between) (defScope s_is_between) [] [] (He.ga K "is_between") fd) (c_is_integer : Got P w K mg base 1 f_is_integer "is_integer" ["value"] (spF K mg 1 (.fz) m_is_integer)) : FnG P w K mg base 2 (He.ga K "is_between") fd ["value", "least", "most"] (spF K mg 3 (.fz) m_is_between) :=
  fnFD (ω' := []) false Fn sc_is_between fun cdv A outer s H E hr gd => (dss_one (ds_ret (wk_fzs _) .nil (de_and (dc c_is_integer (hr.mono (by decide : 1 ≤ 1)) gd letsB (da_cons (de_var (i := 0) rfl (pv 0)) da_nil)) (de_one (de_chain (p := fun i j => decide (i ≤ j)) (p' := fun i j => decide (i ≤ j)) op_le op_le (de_var (i := 1) rfl (pv 1)) (de_var (i := 0) rfl (pv 0)) (de_var (i := 2) rfl (pv 2)))))))
theorem sc_is_move : FnScope ["value", "one"] ["value"] (defScope s_is_move) := ⟨rfl, rfl, rfl, by decide +kernel, rfl, by decide +kernel, by decide +kernel⟩
theorem ok_is_move {fd f_is_between : FuncData} (Fn : FunD K "is_move" "is_move" (defArgs s_is_move) (defBody s_is_move) (defScope s_is_move) [] [] (He.ga K "is_move") fd) (m_isinstance : mg "isinstance" = none) (m_tuple : mg "tuple" = none) (m_len : mg "len" = none) (c_is_between : Got P w K mg base 2 f_is_between "is_between" ["value", "least", "most"] (spF K mg 3 (.fz) m_is_between)) (gi_TURNS : ∃ t, mg "TURNS" = some (.int 8 t)) (gi_MOST_FAR : ∃ t, mg "MOST_FAR" = some (.int 1000000000000 t)) (m_all : mg "all" = none) : FnG P w K mg base 3 (He.ga K "is_move") fd ["value"] (spF K mg 1 (.fz) m_is_move) :=
  fnFD (ω' := []) false Fn sc_is_move fun cdv A outer s H E hr gd => (dss_cons (ds_if (wk_fzs _) (DW.dt (dw_or (dt_not (dt_truth (de_isi (T := "tuple") rfl m_isinstance (de_var (i := 0) rfl (pv 0)) (pe_bltn rfl m_tuple (bt_tuple) rfl)))) (dw_or (dt_cmp (od_ne hr.units) (db cd_len m_len bt_len (da_cons (de_var (i := 0) rfl (pv 0)) da_nil)) de_int (nomark _)) (dw_or1 (dt_not (dt_truth (dc c_is_between (hr.mono (by decide : 2 ≤ 2)) gd letsB (da_cons (de_ix (de_var (i := 0) rfl (pv 0)) de_int (fun _ _ => rfl)) (da_cons de_int (da_cons (de_op od_sub (de_gint rfl gi_TURNS) de_int) da_nil)))))))))) (dss_one (ds_ret (wk_fzs _) .nil de_bl)) dss_nil) (dss_one (ds_ret (wk_fzs _) .nil (db (cd_all rfl) m_all bt_all (da_cons (de_fz (de_lc (own := [("one", 1)]) rfl sc_is_move.nd (hv_cons rfl hv_nil) (di_seq (de_slice (de_var (i := 0) rfl (pv 0)) (do_some de_int) do_none)) (blkOk_by (by rfl)) (fun s' H' C' cl fp => (dg_name (i := 1) rfl (pg_name (i := 1) sc_is_move.nd rfl (by first | exact .inl rfl | exact .inr rfl)))) (fun s' H' C' cl fp => dts_nil) (fun s' H' C' cl fp => (dc c_is_between (hr.mono (by decide : 2 ≤ 2)) gd lets0 (da_cons (de_var (i := 1) rfl (pv 1)) (da_cons (de_op od_sub de_int (de_gint rfl gi_MOST_FAR)) (da_cons (de_gint rfl gi_MOST_FAR) da_nil))))))) da_nil)))))
theorem sc_need_move : FnScope ["part", "value"] ["part", "value"] (defScope s_need_move) := ⟨rfl, rfl, rfl, by decide +kernel, rfl, by decide +kernel, by decide +kernel⟩
theorem ok_need_move {fd f_is_move : FuncData} (Fn : FunD K "need_move" "need_move" (defArgs s_need_move) (defBody s_need_move) (defScope s_need_move) [] [] (He.ga K "need_move") fd) (c_is_move : Got P w K mg base 3 f_is_move "is_move" ["value"] (spF K mg 1 (.fz) m_is_move)) : FnG P w K mg base 4 (He.ga K "need_move") fd ["part", "value"] (spF K mg 2 (.fz) m_need_move) :=
  fnFD true Fn sc_need_move fun cdv A outer s H E hr gd => (dss_one (ds_if (wk_fzs _) (dt_not (dt_truth (dc c_is_move (hr.mono (by decide : 3 ≤ 3)) gd letsB (da_cons (de_var (i := 1) rfl (pv 1)) da_nil)))) (dss_one ds_never) dss_nil))
theorem sc_taken : FnScope ["turn", "cell", "x", "y", "_"] ["turn", "cell"] (defScope s_taken) := ⟨rfl, rfl, rfl, by decide +kernel, rfl, by decide +kernel, by decide +kernel⟩
theorem ok_taken {fd : FuncData} (Fn : FunD K "taken" "taken" (defArgs s_taken) (defBody s_taken) (defScope s_taken) [] [] (He.ga K "taken") fd) (m_range : mg "range" = none) : FnG P w K mg base 1 (He.ga K "taken") fd ["turn", "cell"] (spF K mg 2 (.fz) m_taken) :=
  fnFD (ω' := []) false Fn sc_taken fun cdv A outer s H E hr gd => (dss_cons (ds_asg (vs := [2, 3]) (wk_fzs _) (de_var (i := 1) rfl (pv 1)) (dg_tup rfl (dgs_cons (dg_name (i := 2) rfl (pg_name (i := 2) sc_taken.nd rfl (by first | exact .inl rfl | exact .inr rfl))) (dgs_cons (dg_name (i := 3) rfl (pg_name (i := 3) sc_taken.nd rfl (by first | exact .inl rfl | exact .inr rfl))) dgs_nil)))) (dss_cons (ds_if (wk_fzs _) (dt_cmp od_gt (de_var (i := 0) rfl (pv 0)) de_int (nomark _)) (dss_one (ds_set (i := 2) (wk_fzs _) sc_taken.nd rfl (by first | exact .inl rfl | exact .inr rfl) (de_op od_sub de_int (de_var (i := 2) rfl (pv 2))))) dss_nil) (dss_cons (ds_for (vs := [4]) (wk_fzs _) passB rfl (di_rng1 rfl m_range (da_cons (de_op od_mod (de_var (i := 0) rfl (pv 0)) de_int) da_nil)) (dg_name (i := 4) rfl (pg_name (i := 4) sc_taken.nd rfl (by first | exact .inl rfl | exact .inr rfl))) (dss_one (ds_par2 (i := 2) (j := 3) (wk_fzs _) rfl rfl rfl sc_taken.nd (da_cons (de_op od_sub de_int (de_var (i := 3) rfl (pv 3))) (da_cons (de_var (i := 2) rfl (pv 2)) da_nil))))) (dss_one (ds_ret (wk_fzs _) .nil (de_tup (da_cons (de_var (i := 2) rfl (pv 2)) (da_cons (de_var (i := 3) rfl (pv 3)) da_nil))))))))
theorem sc_put : FnScope ["move", "cell", "x", "y"] ["move", "cell"] (defScope s_put) := ⟨rfl, rfl, rfl, by decide +kernel, rfl, by decide +kernel, by decide +kernel⟩
theorem ok_put {fd f_taken : FuncData} (Fn : FunD K "put" "put" (defArgs s_put) (defBody s_put) (defScope s_put) [] [] (He.ga K "put") fd) (c_taken : Got P w K mg base 1 f_taken "taken" ["turn", "cell"] (spF K mg 2 (.fz) m_taken)) : FnG P w K mg base 2 (He.ga K "put") fd ["move", "cell"] (spF K mg 2 (.fz) m_put) :=
  fnFD (ω' := []) false Fn sc_put fun cdv A outer s H E hr gd => (dss_cons (ds_asg (vs := [2, 3]) (wk_fzs _) (dc c_taken (hr.mono (by decide : 1 ≤ 1)) gd letsB (da_cons (de_ix (de_var (i := 0) rfl (pv 0)) de_int (fun _ _ => rfl)) (da_cons (de_var (i := 1) rfl (pv 1)) da_nil))) (dg_tup rfl (dgs_cons (dg_name (i := 2) rfl (pg_name (i := 2) sc_put.nd rfl (by first | exact .inl rfl | exact .inr rfl))) (dgs_cons (dg_name (i := 3) rfl (pg_name (i := 3) sc_put.nd rfl (by first | exact .inl rfl | exact .inr rfl))) dgs_nil)))) (dss_one (ds_ret (wk_fzs _) .nil (de_tup (da_cons (de_op od_add (de_var (i := 2) rfl (pv 2)) (de_ix (de_var (i := 0) rfl (pv 0)) de_int (fun _ _ => rfl))) (da_cons (de_op od_add (de_var (i := 3) rfl (pv 3)) (de_ix (de_var (i := 0) rfl (pv 0)) de_int (fun _ _ => rfl))) da_nil))))))
theorem sc_joined_turn : FnScope ["one", "other", "is_flip", "quarters"] ["one", "other"] (defScope s_joined_turn) := ⟨rfl, rfl, rfl, by decide +kernel, rfl, by decide +kernel, by decide +kernel⟩
theorem ok_joined_turn {fd : FuncData} (Fn : FunD K "joined_turn" "joined_turn" (defArgs s_joined_turn) (defBody s_joined_turn) (defScope s_joined_turn) [] [] (He.ga K "joined_turn") fd)  : FnG P w K mg base 1 (He.ga K "joined_turn") fd ["one", "other"] (spF K mg 2 (.fz) m_joined_turn) :=
  fnFD (ω' := []) false Fn sc_joined_turn fun cdv A outer s H E hr gd => (dss_cons (ds_set (i := 2) (wk_fzs _) sc_joined_turn.nd rfl (by first | exact .inl rfl | exact .inr rfl) (de_cmp (od_ne hr.units) (de_cmp od_gt (de_var (i := 0) rfl (pv 0)) de_int (nomark _)) (de_cmp od_gt (de_var (i := 1) rfl (pv 1)) de_int (nomark _)) (nomark _))) (dss_cons (ds_set (i := 3) (wk_fzs _) sc_joined_turn.nd rfl (by first | exact .inl rfl | exact .inr rfl) (de_op od_add (de_var (i := 0) rfl (pv 0)) (de_if (dt_cmp od_gt (de_var (i := 0) rfl (pv 0)) de_int (nomark _)) (de_op od_sub de_int (de_var (i := 1) rfl (pv 1))) (de_var (i := 1) rfl (pv 1))))) (dss_one (ds_ret (wk_fzs _) .nil (de_op od_add (de_op od_mod (de_var (i := 3) rfl (pv 3)) de_int) (de_if (dt_truth (de_var (i := 2) rfl (pv 2))) de_int de_int))))))
theorem sc_product : FnScope ["one", "other", "x", "y"] ["one", "other"] (defScope s_product) := ⟨rfl, rfl, rfl, by decide +kernel, rfl, by decide +kernel, by decide +kernel⟩
theorem ok_product {fd f_put f_joined_turn : FuncData} (Fn : FunD K "product" "product" (defArgs s_product) (defBody s_product) (defScope s_product) [] [] (He.ga K "product") fd) (c_put : Got P w K mg base 2 f_put "put" ["move", "cell"] (spF K mg 2 (.fz) m_put)) (c_joined_turn : Got P w K mg base 1 f_joined_turn "joined_turn" ["one", "other"] (spF K mg 2 (.fz) m_joined_turn)) : FnG P w K mg base 3 (He.ga K "product") fd ["one", "other"] (spF K mg 2 (.fz) m_product) :=
  fnFD (ω' := []) false Fn sc_product fun cdv A outer s H E hr gd => (dss_cons (ds_asg (vs := [2, 3]) (wk_fzs _) (dc c_put (hr.mono (by decide : 2 ≤ 2)) gd letsB (da_cons (de_var (i := 0) rfl (pv 0)) (da_cons (de_slice (de_var (i := 1) rfl (pv 1)) (do_some de_int) do_none) da_nil))) (dg_tup rfl (dgs_cons (dg_name (i := 2) rfl (pg_name (i := 2) sc_product.nd rfl (by first | exact .inl rfl | exact .inr rfl))) (dgs_cons (dg_name (i := 3) rfl (pg_name (i := 3) sc_product.nd rfl (by first | exact .inl rfl | exact .inr rfl))) dgs_nil)))) (dss_one (ds_ret (wk_fzs _) .nil (de_tup (da_cons (dc c_joined_turn (hr.mono (by decide : 1 ≤ 2)) gd letsB (da_cons (de_ix (de_var (i := 0) rfl (pv 0)) de_int (fun _ _ => rfl)) (da_cons (de_ix (de_var (i := 1) rfl (pv 1)) de_int (fun _ _ => rfl)) da_nil))) (da_cons (de_var (i := 2) rfl (pv 2)) (da_cons (de_var (i := 3) rfl (pv 3)) da_nil)))))))
theorem sc_power : FnScope ["move", "many", "found", "step"] ["move", "many"] (defScope s_power) := ⟨rfl, rfl, rfl, by decide +kernel, rfl, by decide +kernel, by decide +kernel⟩
theorem ok_power {fd f_product : FuncData} (Fn : FunD K "power" "power" (defArgs s_power) (defBody s_power) (defScope s_power) [] [] (He.ga K "power") fd) (gt_STILL : mg "STILL" = some (.ref (He.ga K "STILL")) ∧ ∀ F, RD K F (.ref (He.ga K "STILL")) (.tup [.int 0, .int 0, .int 0])) (c_product : Got P w K mg base 3 f_product "product" ["one", "other"] (spF K mg 2 (.fz) m_product)) : FnG P w K mg base 4 (He.ga K "power") fd ["move", "many"] (spF K mg 2 (.fz) m_power) :=
  fnFD (ω' := []) false Fn sc_power fun cdv A outer s H E hr gd => (dss_cons (ds_par2 (i := 2) (j := 3) (wk_fzs _) rfl rfl rfl sc_power.nd (da_cons (de_gref rfl gt_STILL.1 gt_STILL.2) (da_cons (de_var (i := 0) rfl (pv 0)) da_nil))) (dss_cons (ds_while (wk_fzs _) passB (dt_cmp od_gt (de_var (i := 1) rfl (pv 1)) de_int (nomark _)) (dss_cons (ds_if (wk_fzs _) (dt_cmp (od_eq hr.units) (de_op od_mod (de_var (i := 1) rfl (pv 1)) de_int) de_int (nomark _)) (dss_one (ds_set (i := 2) (wk_fzs _) sc_power.nd rfl (by first | exact .inl rfl | exact .inr rfl) (dc c_product (hr.mono (by decide : 3 ≤ 3)) gd letsB (da_cons (de_var (i := 3) rfl (pv 3)) (da_cons (de_var (i := 2) rfl (pv 2)) da_nil))))) dss_nil) (dss_cons (ds_set (i := 3) (wk_fzs _) sc_power.nd rfl (by first | exact .inl rfl | exact .inr rfl) (dc c_product (hr.mono (by decide : 3 ≤ 3)) gd letsB (da_cons (de_var (i := 3) rfl (pv 3)) (da_cons (de_var (i := 3) rfl (pv 3)) da_nil)))) (dss_one (ds_aug (i := 1) (wk_fzs _) rfl od_idiv sc_power.nd rfl (by first | exact .inl rfl | exact .inr rfl) de_int))))) (dss_one (ds_ret (wk_fzs _) .nil (de_var (i := 2) rfl (pv 2))))))
theorem sc_kind_of : FnScope ["move"] ["move"] (defScope s_kind_of) := ⟨rfl, rfl, rfl, by decide +kernel, rfl, by decide +kernel, by decide +kernel⟩
theorem ok_kind_of {fd f_need_move f_power : FuncData} (Fn : FunD K "kind_of" "kind_of" (defArgs s_kind_of) (defBody s_kind_of) (defScope s_kind_of) [] [] (He.ga K "kind_of") fd) (c_need_move : Got P w K mg base 4 f_need_move "need_move" ["part", "value"] (spF K mg 2 (.fz) m_need_move)) (gt_STILL : mg "STILL" = some (.ref (He.ga K "STILL")) ∧ ∀ F, RD K F (.ref (He.ga K "STILL")) (.tup [.int 0, .int 0, .int 0])) (c_power : Got P w K mg base 4 f_power "power" ["move", "many"] (spF K mg 2 (.fz) m_power)) : FnG P w K mg base 5 (He.ga K "kind_of") fd ["move"] (spF K mg 1 (.fz) m_kind_of) :=
  fnFD (ω' := []) false Fn sc_kind_of fun cdv A outer s H E hr gd => (dss_cons (ds_expr (wk_fzs _) (dc c_need_move (hr.mono (by decide : 4 ≤ 4)) gd letsB (da_cons de_str (da_cons (de_var (i := 0) rfl (pv 0)) da_nil)))) (dss_cons (ds_if (wk_fzs _) (dt_cmp (od_eq hr.units) (de_ix (de_var (i := 0) rfl (pv 0)) de_int (fun _ _ => rfl)) de_int (nomark _)) (dss_one (ds_ret (wk_fzs _) .nil (de_if (dt_cmp (od_eq hr.units) (de_var (i := 0) rfl (pv 0)) (de_gref rfl gt_STILL.1 gt_STILL.2) (nomark _)) de_str de_str))) dss_nil) (dss_cons (ds_if (wk_fzs _) (dt_cmp od_lt (de_ix (de_var (i := 0) rfl (pv 0)) de_int (fun _ _ => rfl)) de_int (nomark _)) (dss_one (ds_ret (wk_fzs _) .nil (de_if (dt_cmp (od_eq hr.units) (de_ix (de_var (i := 0) rfl (pv 0)) de_int (fun _ _ => rfl)) de_int (nomark _)) de_str de_str))) dss_nil) (dss_one (ds_ret (wk_fzs _) .nil (de_if (dt_cmp (od_eq hr.units) (dc c_power (hr.mono (by decide : 4 ≤ 4)) gd letsB (da_cons (de_var (i := 0) rfl (pv 0)) (da_cons de_int da_nil))) (de_gref rfl gt_STILL.1 gt_STILL.2) (nomark _)) de_str de_str))))))
theorem sc_order_of : FnScope ["turn"] ["turn"] (defScope s_order_of) := ⟨rfl, rfl, rfl, by decide +kernel, rfl, by decide +kernel, by decide +kernel⟩
theorem ok_order_of {fd : FuncData} (Fn : FunD K "order_of" "order_of" (defArgs s_order_of) (defBody s_order_of) (defScope s_order_of) [] [] (He.ga K "order_of") fd)  : FnG P w K mg base 1 (He.ga K "order_of") fd ["turn"] (spF K mg 1 (.fz) m_order_of) :=
  fnFD (ω' := []) false Fn sc_order_of fun cdv A outer s H E hr gd => (dss_one (ds_ret (wk_fzs _) .nil (de_if (DW.dt (dw_or (dt_cmp od_gt (de_var (i := 0) rfl (pv 0)) de_int (nomark _)) (dw_or1 (dt_cmp (od_eq hr.units) (de_var (i := 0) rfl (pv 0)) de_int (nomark _))))) de_int (de_if (dt_cmp (od_eq hr.units) (de_var (i := 0) rfl (pv 0)) de_int (nomark _)) de_int de_int))))
theorem sc_times : FnScope ["move", "many"] ["move"] (defScope s_times) := ⟨rfl, rfl, rfl, by decide +kernel, rfl, by decide +kernel, by decide +kernel⟩
theorem ok_times {fd f_need_move f_order_of f_power : FuncData} (Fn : FunD K "times" "times" (defArgs s_times) (defBody s_times) (defScope s_times) [] [] (He.ga K "times") fd) (c_need_move : Got P w K mg base 4 f_need_move "need_move" ["part", "value"] (spF K mg 2 (.fz) m_need_move)) (c_order_of : Got P w K mg base 1 f_order_of "order_of" ["turn"] (spF K mg 1 (.fz) m_order_of)) (c_power : Got P w K mg base 4 f_power "power" ["move", "many"] (spF K mg 2 (.fz) m_power)) (gt_STILL : mg "STILL" = some (.ref (He.ga K "STILL")) ∧ ∀ F, RD K F (.ref (He.ga K "STILL")) (.tup [.int 0, .int 0, .int 0])) : FnG P w K mg base 5 (He.ga K "times") fd ["move"] (spF K mg 1 (.fz) m_times) :=
  fnFD (ω' := []) false Fn sc_times fun cdv A outer s H E hr gd => (dss_cons (ds_expr (wk_fzs _) (dc c_need_move (hr.mono (by decide : 4 ≤ 4)) gd letsB (da_cons de_str (da_cons (de_var (i := 0) rfl (pv 0)) da_nil)))) (dss_cons (ds_set (i := 1) (wk_fzs _) sc_times.nd rfl (by first | exact .inl rfl | exact .inr rfl) (dc c_order_of (hr.mono (by decide : 1 ≤ 4)) gd letsB (da_cons (de_ix (de_var (i := 0) rfl (pv 0)) de_int (fun _ _ => rfl)) da_nil))) (dss_one (ds_ret (wk_fzs _) .nil (de_if (dt_cmp (od_eq hr.units) (dc c_power (hr.mono (by decide : 4 ≤ 4)) gd letsB (da_cons (de_var (i := 0) rfl (pv 0)) (da_cons (de_var (i := 1) rfl (pv 1)) da_nil))) (de_gref rfl gt_STILL.1 gt_STILL.2) (nomark _)) (de_var (i := 1) rfl (pv 1)) de_non)))))
theorem sc_centre_of : FnScope ["move", "turn", "right", "up"] ["move"] (defScope s_centre_of) := ⟨rfl, rfl, rfl, by decide +kernel, rfl, by decide +kernel, by decide +kernel⟩
theorem ok_centre_of {fd f_need_move : FuncData} (Fn : FunD K "centre_of" "centre_of" (defArgs s_centre_of) (defBody s_centre_of) (defScope s_centre_of) [] [] (He.ga K "centre_of") fd) (c_need_move : Got P w K mg base 4 f_need_move "need_move" ["part", "value"] (spF K mg 2 (.fz) m_need_move)) : FnG P w K mg base 5 (He.ga K "centre_of") fd ["move"] (spF K mg 1 (.fz) m_centre_of) :=
  fnFD (ω' := []) false Fn sc_centre_of fun cdv A outer s H E hr gd => (dss_cons (ds_expr (wk_fzs _) (dc c_need_move (hr.mono (by decide : 4 ≤ 4)) gd letsB (da_cons de_str (da_cons (de_var (i := 0) rfl (pv 0)) da_nil)))) (dss_cons (ds_asg (vs := [1, 2, 3]) (wk_fzs _) (de_var (i := 0) rfl (pv 0)) (dg_tup rfl (dgs_cons (dg_name (i := 1) rfl (pg_name (i := 1) sc_centre_of.nd rfl (by first | exact .inl rfl | exact .inr rfl))) (dgs_cons (dg_name (i := 2) rfl (pg_name (i := 2) sc_centre_of.nd rfl (by first | exact .inl rfl | exact .inr rfl))) (dgs_cons (dg_name (i := 3) rfl (pg_name (i := 3) sc_centre_of.nd rfl (by first | exact .inl rfl | exact .inr rfl))) dgs_nil))))) (dss_cons (ds_if (wk_fzs _) (dt_cmp (od_eq hr.units) (de_var (i := 1) rfl (pv 1)) de_int (nomark _)) (dss_one (ds_ret (wk_fzs _) .nil (de_tup (da_cons (de_var (i := 2) rfl (pv 2)) (da_cons (de_var (i := 3) rfl (pv 3)) da_nil))))) dss_nil) (dss_cons (ds_if (wk_fzs _) (dt_cmp (od_eq hr.units) (de_var (i := 1) rfl (pv 1)) de_int (nomark _)) (dss_one (ds_ret (wk_fzs _) .nil (de_tup (da_cons (de_op od_sub (de_var (i := 2) rfl (pv 2)) (de_var (i := 3) rfl (pv 3))) (da_cons (de_op od_add (de_var (i := 2) rfl (pv 2)) (de_var (i := 3) rfl (pv 3))) da_nil))))) dss_nil) (dss_one (ds_ret (wk_fzs _) .nil (de_if (dt_cmp (od_eq hr.units) (de_var (i := 1) rfl (pv 1)) de_int (nomark _)) (de_tup (da_cons (de_op od_add (de_var (i := 2) rfl (pv 2)) (de_var (i := 3) rfl (pv 3))) (da_cons (de_op od_sub (de_var (i := 3) rfl (pv 3)) (de_var (i := 2) rfl (pv 2))) da_nil))) de_non)))))))
theorem sc_after : FnScope ["one", "other"] ["one", "other"] (defScope s_after) := ⟨rfl, rfl, rfl, by decide +kernel, rfl, by decide +kernel, by decide +kernel⟩
theorem ok_after {fd f_need_move f_product : FuncData} (Fn : FunD K "after" "after" (defArgs s_after) (defBody s_after) (defScope s_after) [] [] (He.ga K "after") fd) (c_need_move : Got P w K mg base 4 f_need_move "need_move" ["part", "value"] (spF K mg 2 (.fz) m_need_move)) (c_product : Got P w K mg base 3 f_product "product" ["one", "other"] (spF K mg 2 (.fz) m_product)) : FnG P w K mg base 5 (He.ga K "after") fd ["one", "other"] (spF K mg 2 (.fz) m_after) :=
  fnFD (ω' := []) false Fn sc_after fun cdv A outer s H E hr gd => (dss_cons (ds_expr (wk_fzs _) (dc c_need_move (hr.mono (by decide : 4 ≤ 4)) gd letsB (da_cons de_str (da_cons (de_var (i := 0) rfl (pv 0)) da_nil)))) (dss_cons (ds_expr (wk_fzs _) (dc c_need_move (hr.mono (by decide : 4 ≤ 4)) gd letsB (da_cons de_str (da_cons (de_var (i := 1) rfl (pv 1)) da_nil)))) (dss_one (ds_ret (wk_fzs _) .nil (dc c_product (hr.mono (by decide : 3 ≤ 4)) gd letsB (da_cons (de_var (i := 0) rfl (pv 0)) (da_cons (de_var (i := 1) rfl (pv 1)) da_nil)))))))
theorem sc_undone_turn : FnScope ["turn"] ["turn"] (defScope s_undone_turn) := ⟨rfl, rfl, rfl, by decide +kernel, rfl, by decide +kernel, by decide +kernel⟩
theorem ok_undone_turn {fd : FuncData} (Fn : FunD K "undone_turn" "undone_turn" (defArgs s_undone_turn) (defBody s_undone_turn) (defScope s_undone_turn) [] [] (He.ga K "undone_turn") fd)  : FnG P w K mg base 1 (He.ga K "undone_turn") fd ["turn"] (spF K mg 1 (.fz) m_undone_turn) :=
  fnFD (ω' := []) false Fn sc_undone_turn fun cdv A outer s H E hr gd => (dss_one (ds_ret (wk_fzs _) .nil (de_if (dt_cmp od_gt (de_var (i := 0) rfl (pv 0)) de_int (nomark _)) (de_var (i := 0) rfl (pv 0)) (de_op od_mod (de_op od_sub de_int (de_var (i := 0) rfl (pv 0))) de_int))))
theorem sc_inverse : FnScope ["move", "turn", "x", "y"] ["move"] (defScope s_inverse) := ⟨rfl, rfl, rfl, by decide +kernel, rfl, by decide +kernel, by decide +kernel⟩
theorem ok_inverse {fd f_undone_turn f_taken : FuncData} (Fn : FunD K "inverse" "inverse" (defArgs s_inverse) (defBody s_inverse) (defScope s_inverse) [] [] (He.ga K "inverse") fd) (c_undone_turn : Got P w K mg base 1 f_undone_turn "undone_turn" ["turn"] (spF K mg 1 (.fz) m_undone_turn)) (c_taken : Got P w K mg base 1 f_taken "taken" ["turn", "cell"] (spF K mg 2 (.fz) m_taken)) : FnG P w K mg base 2 (He.ga K "inverse") fd ["move"] (spF K mg 1 (.fz) m_inverse) :=
  fnFD (ω' := []) false Fn sc_inverse fun cdv A outer s H E hr gd => (dss_cons (ds_set (i := 1) (wk_fzs _) sc_inverse.nd rfl (by first | exact .inl rfl | exact .inr rfl) (dc c_undone_turn (hr.mono (by decide : 1 ≤ 1)) gd letsB (da_cons (de_ix (de_var (i := 0) rfl (pv 0)) de_int (fun _ _ => rfl)) da_nil))) (dss_cons (ds_asg (vs := [2, 3]) (wk_fzs _) (dc c_taken (hr.mono (by decide : 1 ≤ 1)) gd letsB (da_cons (de_var (i := 1) rfl (pv 1)) (da_cons (de_slice (de_var (i := 0) rfl (pv 0)) (do_some de_int) do_none) da_nil))) (dg_tup rfl (dgs_cons (dg_name (i := 2) rfl (pg_name (i := 2) sc_inverse.nd rfl (by first | exact .inl rfl | exact .inr rfl))) (dgs_cons (dg_name (i := 3) rfl (pg_name (i := 3) sc_inverse.nd rfl (by first | exact .inl rfl | exact .inr rfl))) dgs_nil)))) (dss_one (ds_ret (wk_fzs _) .nil (de_tup (da_cons (de_var (i := 1) rfl (pv 1)) (da_cons (de_op od_sub de_int (de_var (i := 2) rfl (pv 2))) (da_cons (de_op od_sub de_int (de_var (i := 3) rfl (pv 3))) da_nil))))))))
theorem sc_back : FnScope ["move"] ["move"] (defScope s_back) := ⟨rfl, rfl, rfl, by decide +kernel, rfl, by decide +kernel, by decide +kernel⟩
theorem ok_back {fd f_need_move f_inverse : FuncData} (Fn : FunD K "back" "back" (defArgs s_back) (defBody s_back) (defScope s_back) [] [] (He.ga K "back") fd) (c_need_move : Got P w K mg base 4 f_need_move "need_move" ["part", "value"] (spF K mg 2 (.fz) m_need_move)) (c_inverse : Got P w K mg base 2 f_inverse "inverse" ["move"] (spF K mg 1 (.fz) m_inverse)) : FnG P w K mg base 5 (He.ga K "back") fd ["move"] (spF K mg 1 (.fz) m_back) :=
  fnFD (ω' := []) false Fn sc_back fun cdv A outer s H E hr gd => (dss_cons (ds_expr (wk_fzs _) (dc c_need_move (hr.mono (by decide : 4 ≤ 4)) gd letsB (da_cons de_str (da_cons (de_var (i := 0) rfl (pv 0)) da_nil)))) (dss_one (ds_ret (wk_fzs _) .nil (dc c_inverse (hr.mono (by decide : 2 ≤ 4)) gd letsB (da_cons (de_var (i := 0) rfl (pv 0)) da_nil)))))
theorem sc__law_kind_of : FnScope ["move", "twice"] ["move"] (defScope s__law_kind_of) := ⟨rfl, rfl, rfl, by decide +kernel, rfl, by decide +kernel, by decide +kernel⟩
theorem ok__law_kind_of {fd f__law_after : FuncData} (Fn : FunD K "_law_kind_of" "_law_kind_of" (defArgs s__law_kind_of) (defBody s__law_kind_of) (defScope s__law_kind_of) [] [] (He.ga K "_law_kind_of") fd) (c__law_after : Got P w K mg base 3 f__law_after "_law_after" ["one", "other"] (spF K mg 2 (.fz) m__law_after)) : FnG P w K mg base 4 (He.ga K "_law_kind_of") fd ["move"] (spF K mg 1 (.fz) m__law_kind_of) :=
  fnFD (ω' := []) false Fn sc__law_kind_of fun cdv A outer s H E hr gd => (dss_cons (ds_set (i := 1) (wk_fzs _) sc__law_kind_of.nd rfl (by first | exact .inl rfl | exact .inr rfl) (dc c__law_after (hr.mono (by decide : 3 ≤ 3)) gd letsB (da_cons (de_var (i := 0) rfl (pv 0)) (da_cons (de_var (i := 0) rfl (pv 0)) da_nil)))) (dss_cons (ds_if (wk_fzs _) (dt_cmp (od_eq hr.units) (de_ix (de_var (i := 0) rfl (pv 0)) de_int (fun _ _ => rfl)) de_int (nomark _)) (dss_one (ds_ret (wk_fzs _) .nil (de_if (dt_cmp (od_eq hr.units) (de_var (i := 0) rfl (pv 0)) (de_tup (da_cons de_int (da_cons de_int (da_cons de_int da_nil)))) (nomark _)) de_str de_str))) dss_nil) (dss_cons (ds_if (wk_fzs _) (dt_cmp od_gt (de_ix (de_var (i := 0) rfl (pv 0)) de_int (fun _ _ => rfl)) de_int (nomark _)) (dss_one (ds_ret (wk_fzs _) .nil (de_if (dt_cmp (od_eq hr.units) (de_var (i := 1) rfl (pv 1)) (de_tup (da_cons de_int (da_cons de_int (da_cons de_int da_nil)))) (nomark _)) de_str de_str))) dss_nil) (dss_one (ds_ret (wk_fzs _) .nil (de_if (dt_cmp (od_eq hr.units) (de_var (i := 1) rfl (pv 1)) (de_tup (da_cons de_int (da_cons de_int (da_cons de_int da_nil)))) (nomark _)) de_str de_str))))))
theorem sc_conjugate : FnScope ["move", "other"] ["move", "other"] (defScope s_conjugate) := ⟨rfl, rfl, rfl, by decide +kernel, rfl, by decide +kernel, by decide +kernel⟩
theorem ok_conjugate {fd f_product f_inverse : FuncData} (Fn : FunD K "conjugate" "conjugate" (defArgs s_conjugate) (defBody s_conjugate) (defScope s_conjugate) [] [] (He.ga K "conjugate") fd) (c_product : Got P w K mg base 3 f_product "product" ["one", "other"] (spF K mg 2 (.fz) m_product)) (c_inverse : Got P w K mg base 2 f_inverse "inverse" ["move"] (spF K mg 1 (.fz) m_inverse)) : FnG P w K mg base 4 (He.ga K "conjugate") fd ["move", "other"] (spF K mg 2 (.fz) m_conjugate) :=
  fnFD (ω' := []) false Fn sc_conjugate fun cdv A outer s H E hr gd => (dss_one (ds_ret (wk_fzs _) .nil (dc c_product (hr.mono (by decide : 3 ≤ 3)) gd letsB (da_cons (dc c_product (hr.mono (by decide : 3 ≤ 3)) gd letsB (da_cons (de_var (i := 0) rfl (pv 0)) (da_cons (de_var (i := 1) rfl (pv 1)) da_nil))) (da_cons (dc c_inverse (hr.mono (by decide : 2 ≤ 3)) gd letsB (da_cons (de_var (i := 0) rfl (pv 0)) da_nil)) da_nil)))))
theorem sc_seen_from : FnScope ["move", "other"] ["move", "other"] (defScope s_seen_from) := ⟨rfl, rfl, rfl, by decide +kernel, rfl, by decide +kernel, by decide +kernel⟩
theorem ok_seen_from {fd f_need_move f_conjugate : FuncData} (Fn : FunD K "seen_from" "seen_from" (defArgs s_seen_from) (defBody s_seen_from) (defScope s_seen_from) [] [] (He.ga K "seen_from") fd) (c_need_move : Got P w K mg base 4 f_need_move "need_move" ["part", "value"] (spF K mg 2 (.fz) m_need_move)) (c_conjugate : Got P w K mg base 4 f_conjugate "conjugate" ["move", "other"] (spF K mg 2 (.fz) m_conjugate)) : FnG P w K mg base 5 (He.ga K "seen_from") fd ["move", "other"] (spF K mg 2 (.fz) m_seen_from) :=
  fnFD (ω' := []) false Fn sc_seen_from fun cdv A outer s H E hr gd => (dss_cons (ds_expr (wk_fzs _) (dc c_need_move (hr.mono (by decide : 4 ≤ 4)) gd letsB (da_cons de_str (da_cons (de_var (i := 0) rfl (pv 0)) da_nil)))) (dss_cons (ds_expr (wk_fzs _) (dc c_need_move (hr.mono (by decide : 4 ≤ 4)) gd letsB (da_cons de_str (da_cons (de_var (i := 1) rfl (pv 1)) da_nil)))) (dss_one (ds_ret (wk_fzs _) .nil (dc c_conjugate (hr.mono (by decide : 4 ≤ 4)) gd letsB (da_cons (de_var (i := 0) rfl (pv 0)) (da_cons (de_var (i := 1) rfl (pv 1)) da_nil)))))))
theorem sc_repeated : FnScope ["move", "many"] ["move", "many"] (defScope s_repeated) := ⟨rfl, rfl, rfl, by decide +kernel, rfl, by decide +kernel, by decide +kernel⟩
theorem ok_repeated {fd f_need_move f_is_between f_power : FuncData} (Fn : FunD K "repeated" "repeated" (defArgs s_repeated) (defBody s_repeated) (defScope s_repeated) [] [] (He.ga K "repeated") fd) (c_need_move : Got P w K mg base 4 f_need_move "need_move" ["part", "value"] (spF K mg 2 (.fz) m_need_move)) (c_is_between : Got P w K mg base 2 f_is_between "is_between" ["value", "least", "most"] (spF K mg 3 (.fz) m_is_between)) (c_power : Got P w K mg base 4 f_power "power" ["move", "many"] (spF K mg 2 (.fz) m_power)) : FnG P w K mg base 5 (He.ga K "repeated") fd ["move", "many"] (spF K mg 2 (.fz) m_repeated) :=
  fnFD (ω' := []) false Fn sc_repeated fun cdv A outer s H E hr gd => (dss_cons (ds_expr (wk_fzs _) (dc c_need_move (hr.mono (by decide : 4 ≤ 4)) gd letsB (da_cons de_str (da_cons (de_var (i := 0) rfl (pv 0)) da_nil)))) (dss_cons (ds_if (wk_fzs _) (dt_not (dt_truth (dc c_is_between (hr.mono (by decide : 2 ≤ 4)) gd letsB (da_cons (de_var (i := 1) rfl (pv 1)) (da_cons de_int (da_cons de_int da_nil)))))) (dss_one ds_never) dss_nil) (dss_one (ds_ret (wk_fzs _) .nil (dc c_power (hr.mono (by decide : 4 ≤ 4)) gd letsB (da_cons (de_var (i := 0) rfl (pv 0)) (da_cons (de_var (i := 1) rfl (pv 1)) da_nil)))))))
theorem sc_law : FnScope ["script", "pen", "lap", "one", "two", "three", "due", "many", "found", "step", "small", "some", "points"] ["script"] (defScope s_law) := ⟨rfl, rfl, rfl, by decide +kernel, rfl, by decide +kernel, by decide +kernel⟩
theorem ok_law {fd f__law_pen f__law_move f_after f_back f__law_after f__law_back f_seen_from f__law_pick f__law_draw f_repeated f_times f_kind_of f__law_kind_of f__law_still_points f_centre_of : FuncData} (Fn : FunD K "law" "law" (defArgs s_law) (defBody s_law) (defScope s_law) [] [] (He.ga K "law") fd) (c__law_pen : Got P w K mg base 1 f__law_pen "_law_pen" ["script"] (spF K mg 1 (.lst .fz) m__law_pen)) (m_range : mg "range" = none) (c__law_move : Got P w K mg base 2 f__law_move "_law_move" ["pen", "far"] (spP K mg 1 (.fz) m__law_move)) (c_after : Got P w K mg base 5 f_after "after" ["one", "other"] (spF K mg 2 (.fz) m_after)) (gt_STILL : mg "STILL" = some (.ref (He.ga K "STILL")) ∧ ∀ F, RD K F (.ref (He.ga K "STILL")) (.tup [.int 0, .int 0, .int 0])) (c_back : Got P w K mg base 5 f_back "back" ["move"] (spF K mg 1 (.fz) m_back)) (c__law_after : Got P w K mg base 3 f__law_after "_law_after" ["one", "other"] (spF K mg 2 (.fz) m__law_after)) (c__law_back : Got P w K mg base 2 f__law_back "_law_back" ["move"] (spF K mg 1 (.fz) m__law_back)) (c_seen_from : Got P w K mg base 5 f_seen_from "seen_from" ["move", "other"] (spF K mg 2 (.fz) m_seen_from)) (kb_seen_from_other_move : KwB K f_seen_from ["move", "other"] ["other", "move"] [1, 0]) (m_repr : mg "repr" = none) (c__law_pick : Got P w K mg base 2 f__law_pick "_law_pick" ["pen", "some"] (spP K mg 1 (.fz) m__law_pick)) (c__law_draw : Got P w K mg base 1 f__law_draw "_law_draw" ["pen", "many"] (spP K mg 1 (.fz) m__law_draw)) (c_repeated : Got P w K mg base 5 f_repeated "repeated" ["move", "many"] (spF K mg 2 (.fz) m_repeated)) (kb_repeated_many_move : KwB K f_repeated ["move", "many"] ["many", "move"] [1, 0]) (c_times : Got P w K mg base 5 f_times "times" ["move"] (spF K mg 1 (.fz) m_times)) (kb_times_move : KwB K f_times ["move"] ["move"] [0]) (c_kind_of : Got P w K mg base 5 f_kind_of "kind_of" ["move"] (spF K mg 1 (.fz) m_kind_of)) (c__law_kind_of : Got P w K mg base 4 f__law_kind_of "_law_kind_of" ["move"] (spF K mg 1 (.fz) m__law_kind_of)) (kb_kind_of_move : KwB K f_kind_of ["move"] ["move"] [0]) (c__law_still_points : Got P w K mg base 2 f__law_still_points "_law_still_points" ["move"] (spF K mg 1 (.fz) m__law_still_points)) (c_centre_of : Got P w K mg base 5 f_centre_of "centre_of" ["move"] (spF K mg 1 (.fz) m_centre_of)) (kb_centre_of_move : KwB K f_centre_of ["move"] ["move"] [0]) : FnG P w K mg base 6 (He.ga K "law") fd ["script"] (spF K mg 1 (.fz) m_law) :=
  fnFD (ω' := []) false Fn sc_law fun cdv A outer s H E hr gd => (dss_cons (ds_set (i := 1) (wk_fzs _) sc_law.nd rfl (by first | exact .inl rfl | exact .inr rfl) (dc c__law_pen (hr.mono (by decide : 1 ≤ 5)) gd letsB (da_cons (de_var (i := 0) rfl (pv 0)) da_nil))) (dss_cons (ds_for (vs := [2]) (wk_fzs _) passB rfl (di_rng1 rfl m_range (da_cons de_int da_nil)) (dg_name (i := 2) rfl (pg_name (i := 2) sc_law.nd rfl (by first | exact .inl rfl | exact .inr rfl))) (dss_cons (ds_par3 (i := 3) (j := 4) (l := 5) (wk_fzs _) rfl rfl rfl rfl sc_law.nd (da_cons (dcP c__law_move (hr.mono (by decide : 2 ≤ 5)) gd letsB (i := 1) rfl rfl (pv 1) (da_cons de_int da_nil)) (da_cons (dcP c__law_move (hr.mono (by decide : 2 ≤ 5)) gd letsB (i := 1) rfl rfl (pv 1) (da_cons de_int da_nil)) (da_cons (dcP c__law_move (hr.mono (by decide : 2 ≤ 5)) gd letsB (i := 1) rfl rfl (pv 1) (da_cons de_int da_nil)) da_nil)))) (dss_cons (ds_if (wk_fzs _) (DW.dt (dw_or (dt_cmp (od_ne hr.units) (dc c_after (hr.mono (by decide : 5 ≤ 5)) gd letsB (da_cons (dc c_after (hr.mono (by decide : 5 ≤ 5)) gd letsB (da_cons (de_var (i := 3) rfl (pv 3)) (da_cons (de_var (i := 4) rfl (pv 4)) da_nil))) (da_cons (de_var (i := 5) rfl (pv 5)) da_nil))) (dc c_after (hr.mono (by decide : 5 ≤ 5)) gd letsB (da_cons (de_var (i := 3) rfl (pv 3)) (da_cons (dc c_after (hr.mono (by decide : 5 ≤ 5)) gd letsB (da_cons (de_var (i := 4) rfl (pv 4)) (da_cons (de_var (i := 5) rfl (pv 5)) da_nil))) da_nil))) (nomark _)) (dw_or (dt_cmp (od_ne hr.units) (dc c_after (hr.mono (by decide : 5 ≤ 5)) gd letsB (da_cons (de_var (i := 3) rfl (pv 3)) (da_cons (de_gref rfl gt_STILL.1 gt_STILL.2) da_nil))) (de_var (i := 3) rfl (pv 3)) (nomark _)) (dw_or1 (dt_cmp (od_ne hr.units) (dc c_after (hr.mono (by decide : 5 ≤ 5)) gd letsB (da_cons (de_gref rfl gt_STILL.1 gt_STILL.2) (da_cons (de_var (i := 3) rfl (pv 3)) da_nil))) (de_var (i := 3) rfl (pv 3)) (nomark _)))))) (dss_one (ds_ret (wk_fzs _) .nil de_bl)) dss_nil) (dss_cons (ds_if (wk_fzs _) (DW.dt (dw_or (dt_cmp (od_ne hr.units) (dc c_after (hr.mono (by decide : 5 ≤ 5)) gd letsB (da_cons (de_var (i := 3) rfl (pv 3)) (da_cons (dc c_back (hr.mono (by decide : 5 ≤ 5)) gd letsB (da_cons (de_var (i := 3) rfl (pv 3)) da_nil)) da_nil))) (de_gref rfl gt_STILL.1 gt_STILL.2) (nomark _)) (dw_or (dt_cmp (od_ne hr.units) (dc c_after (hr.mono (by decide : 5 ≤ 5)) gd letsB (da_cons (dc c_back (hr.mono (by decide : 5 ≤ 5)) gd letsB (da_cons (de_var (i := 3) rfl (pv 3)) da_nil)) (da_cons (de_var (i := 3) rfl (pv 3)) da_nil))) (de_gref rfl gt_STILL.1 gt_STILL.2) (nomark _)) (dw_or1 (dt_cmp (od_ne hr.units) (dc c_back (hr.mono (by decide : 5 ≤ 5)) gd letsB (da_cons (dc c_after (hr.mono (by decide : 5 ≤ 5)) gd letsB (da_cons (de_var (i := 3) rfl (pv 3)) (da_cons (de_var (i := 4) rfl (pv 4)) da_nil))) da_nil)) (dc c_after (hr.mono (by decide : 5 ≤ 5)) gd letsB (da_cons (dc c_back (hr.mono (by decide : 5 ≤ 5)) gd letsB (da_cons (de_var (i := 4) rfl (pv 4)) da_nil)) (da_cons (dc c_back (hr.mono (by decide : 5 ≤ 5)) gd letsB (da_cons (de_var (i := 3) rfl (pv 3)) da_nil)) da_nil))) (nomark _)))))) (dss_one (ds_ret (wk_fzs _) .nil de_bl)) dss_nil) (dss_cons (ds_set (i := 6) (wk_fzs _) sc_law.nd rfl (by first | exact .inl rfl | exact .inr rfl) (dc c__law_after (hr.mono (by decide : 3 ≤ 5)) gd letsB (da_cons (dc c__law_after (hr.mono (by decide : 3 ≤ 5)) gd letsB (da_cons (de_var (i := 3) rfl (pv 3)) (da_cons (de_var (i := 4) rfl (pv 4)) da_nil))) (da_cons (dc c__law_back (hr.mono (by decide : 2 ≤ 5)) gd letsB (da_cons (de_var (i := 3) rfl (pv 3)) da_nil)) da_nil)))) (dss_cons (ds_if (wk_fzs _) (dt_cmp (od_ne hr.units) (db (cd_repr gd (hu80 hr)) m_repr bt_repr (da_cons (de_lst (da_cons (dc c_seen_from (hr.mono (by decide : 5 ≤ 5)) gd letsB (da_cons (de_var (i := 3) rfl (pv 3)) (da_cons (de_var (i := 4) rfl (pv 4)) da_nil))) (da_cons (dck c_seen_from kb_seen_from_other_move (hr.mono (by decide : 5 ≤ 5)) gd letsB (dk_cons (de_var (i := 4) rfl (pv 4)) (dk_cons (de_var (i := 3) rfl (pv 3)) dk_nil)) (fun xs h => match xs, h with | [_, _], _ => rfl)) da_nil))) da_nil)) (db (cd_repr gd (hu80 hr)) m_repr bt_repr (da_cons (de_lst (da_cons (de_var (i := 6) rfl (pv 6)) (da_cons (de_var (i := 6) rfl (pv 6)) da_nil))) da_nil)) (nomark _)) (dss_one (ds_ret (wk_fzs _) .nil de_bl)) dss_nil) (dss_cons (ds_par2 (i := 7) (j := 8) (wk_fzs _) rfl rfl rfl sc_law.nd (da_cons (dcP c__law_pick (hr.mono (by decide : 2 ≤ 5)) gd letsB (i := 1) rfl rfl (pv 1) (da_cons (de_lst (da_cons (dcP c__law_draw (hr.mono (by decide : 1 ≤ 5)) gd letsB (i := 1) rfl rfl (pv 1) (da_cons de_int da_nil)) (da_cons (dcP c__law_draw (hr.mono (by decide : 1 ≤ 5)) gd letsB (i := 1) rfl rfl (pv 1) (da_cons de_int da_nil)) (da_cons (de_op od_sub de_int (dcP c__law_draw (hr.mono (by decide : 1 ≤ 5)) gd letsB (i := 1) rfl rfl (pv 1) (da_cons de_int da_nil))) da_nil)))) da_nil)) (da_cons (de_tup (da_cons de_int (da_cons de_int (da_cons de_int da_nil)))) da_nil))) (dss_cons (ds_for (vs := [9]) (wk_fzs _) passB rfl (di_rng1 rfl m_range (da_cons (de_var (i := 7) rfl (pv 7)) da_nil)) (dg_name (i := 9) rfl (pg_name (i := 9) sc_law.nd rfl (by first | exact .inl rfl | exact .inr rfl))) (dss_one (ds_set (i := 8) (wk_fzs _) sc_law.nd rfl (by first | exact .inl rfl | exact .inr rfl) (dc c__law_after (hr.mono (by decide : 3 ≤ 5)) gd letsB (da_cons (de_var (i := 3) rfl (pv 3)) (da_cons (de_var (i := 8) rfl (pv 8)) da_nil)))))) (dss_cons (ds_if (wk_fzs _) (dt_cmp (od_ne hr.units) (db (cd_repr gd (hu80 hr)) m_repr bt_repr (da_cons (de_lst (da_cons (dc c_repeated (hr.mono (by decide : 5 ≤ 5)) gd letsB (da_cons (de_var (i := 3) rfl (pv 3)) (da_cons (de_var (i := 7) rfl (pv 7)) da_nil))) (da_cons (dck c_repeated kb_repeated_many_move (hr.mono (by decide : 5 ≤ 5)) gd letsB (dk_cons (de_var (i := 7) rfl (pv 7)) (dk_cons (de_var (i := 3) rfl (pv 3)) dk_nil)) (fun xs h => match xs, h with | [_, _], _ => rfl)) da_nil))) da_nil)) (db (cd_repr gd (hu80 hr)) m_repr bt_repr (da_cons (de_lst (da_cons (de_var (i := 8) rfl (pv 8)) (da_cons (de_var (i := 8) rfl (pv 8)) da_nil))) da_nil)) (nomark _)) (dss_one (ds_ret (wk_fzs _) .nil de_bl)) dss_nil) (dss_cons (ds_set (i := 10) (wk_fzs _) sc_law.nd rfl (by first | exact .inl rfl | exact .inr rfl) (dcP c__law_move (hr.mono (by decide : 2 ≤ 5)) gd letsB (i := 1) rfl rfl (pv 1) (da_cons de_int da_nil))) (dss_cons (ds_setLc (i := 11) (own := [("step", 9)]) (wk_fzs _) rfl sc_law.nd rfl rfl rfl (hv_cons rfl hv_nil) (di_rng2 rfl m_range (da_cons de_int (da_cons de_int da_nil))) (blkOk_by (by rfl)) (fun s' H' C' cl fp => (dg_name (i := 9) rfl (pg_name (i := 9) sc_law.nd rfl (by first | exact .inl rfl | exact .inr rfl)))) (fun s' H' C' cl fp => (dts_one (dt_cmp (od_eq hr.units) (dc c_repeated (hr.mono (by decide : 5 ≤ 5)) gd lets0 (da_cons (de_var (i := 10) rfl (pv 10)) (da_cons (de_var (i := 9) rfl (pv 9)) da_nil))) (de_gref rfl gt_STILL.1 gt_STILL.2) (nomark _)))) (fun s' H' C' cl fp => (de_var (i := 9) rfl (pv 9)))) (dss_wk (.fz (.same (.fz (.fz (.fz (.fz (.fz (.fz (.fz (.fz (.fz (.fz (.fz .nil))))))))))))) (dss_cons (ds_if (wk_fzs _) (DW.dt (dw_or (dt_cmp (od_ne hr.units) (db (cd_repr gd (hu80 hr)) m_repr bt_repr (da_cons (de_lst (da_cons (dc c_times (hr.mono (by decide : 5 ≤ 5)) gd letsB (da_cons (de_var (i := 10) rfl (pv 10)) da_nil)) (da_cons (dck c_times kb_times_move (hr.mono (by decide : 5 ≤ 5)) gd letsB (dk_cons (de_var (i := 10) rfl (pv 10)) dk_nil) (fun xs h => match xs, h with | [_], _ => rfl)) da_nil))) da_nil)) (db (cd_repr gd (hu80 hr)) m_repr bt_repr (da_cons (de_op od_mul (de_lst (da_cons (de_if (dt_cmp (od_ne hr.units) (de_var (i := 11) rfl (pv 11)) (de_lst da_nil) (nomark _)) (de_ix (de_var (i := 11) rfl (pv 11)) de_int (fun _ _ => rfl)) de_non) da_nil)) de_int) da_nil)) (nomark _)) (dw_or (dt_cmp (od_ne hr.units) (dc c_kind_of (hr.mono (by decide : 5 ≤ 5)) gd letsB (da_cons (de_var (i := 10) rfl (pv 10)) da_nil)) (dc c__law_kind_of (hr.mono (by decide : 4 ≤ 5)) gd letsB (da_cons (de_var (i := 10) rfl (pv 10)) da_nil)) (nomark _)) (dw_or1 (dt_cmp (od_ne hr.units) (dck c_kind_of kb_kind_of_move (hr.mono (by decide : 5 ≤ 5)) gd letsB (dk_cons (de_var (i := 3) rfl (pv 3)) dk_nil) (fun xs h => match xs, h with | [_], _ => rfl)) (dc c__law_kind_of (hr.mono (by decide : 4 ≤ 5)) gd letsB (da_cons (de_var (i := 3) rfl (pv 3)) da_nil)) (nomark _)))))) (dss_one (ds_ret (wk_fzs _) .nil de_bl)) dss_nil) (dss_cons (ds_set (i := 12) (wk_fzs _) sc_law.nd rfl (by first | exact .inl rfl | exact .inr rfl) (de_if (dt_cmp (od_in (hu65 hr)) (de_ix (de_var (i := 10) rfl (pv 10)) de_int (fun _ _ => rfl)) (de_tup (da_cons de_int (da_cons de_int (da_cons de_int da_nil)))) (by with_unfolding_all rfl)) (dc c__law_still_points (hr.mono (by decide : 2 ≤ 5)) gd letsB (da_cons (de_var (i := 10) rfl (pv 10)) da_nil)) (de_lst (da_cons de_non da_nil)))) (dss_one (ds_if (wk_fzs _) (DW.dt (dw_or (dt_cmp (od_ne hr.units) (db (cd_repr gd (hu80 hr)) m_repr bt_repr (da_cons (de_var (i := 12) rfl (pv 12)) da_nil)) (db (cd_repr gd (hu80 hr)) m_repr bt_repr (da_cons (de_lst (da_cons (dc c_centre_of (hr.mono (by decide : 5 ≤ 5)) gd letsB (da_cons (de_var (i := 10) rfl (pv 10)) da_nil)) da_nil)) da_nil)) (nomark _)) (dw_or1 (dt_cmp (od_ne hr.units) (dck c_centre_of kb_centre_of_move (hr.mono (by decide : 5 ≤ 5)) gd letsB (dk_cons (de_var (i := 10) rfl (pv 10)) dk_nil) (fun xs h => match xs, h with | [_], _ => rfl)) (dc c_centre_of (hr.mono (by decide : 5 ≤ 5)) gd letsB (da_cons (de_var (i := 10) rfl (pv 10)) da_nil)) (nomark _))))) (dss_one (ds_ret (wk_fzs _) .nil de_bl)) dss_nil)))))))))))))))) (dss_wk (.fz (.fz (.fz (.fz (.fz (.fz (.fz (.fz (.fz (.fz (.fz (.fz (.fz .nil))))))))))))) (dss_one (ds_ret (wk_fzs _) .nil (de_and (de_cmp (od_eq hr.units) (dc c_kind_of (hr.mono (by decide : 5 ≤ 5)) gd letsB (da_cons (de_gref rfl gt_STILL.1 gt_STILL.2) da_nil)) de_str (nomark _)) (de_and (de_cmp (od_eq hr.units) (dc c_times (hr.mono (by decide : 5 ≤ 5)) gd letsB (da_cons (de_gref rfl gt_STILL.1 gt_STILL.2) da_nil)) de_int (nomark _)) (de_one (de_cmp od_isN (dc c_centre_of (hr.mono (by decide : 5 ≤ 5)) gd letsB (da_cons (de_gref rfl gt_STILL.1 gt_STILL.2) da_nil)) de_non (nomark _))))))))))
end
end Gk01
namespace Gk01
open PySem PySem.Spec PyProof.Rows L2 DL
def d__law_pen : He.DefD := ⟨("_law_pen", none), "_law_pen", "_law_pen", defArgs s__law_pen, defBody s__law_pen, defScope s__law_pen, [], []⟩
def d__law_by_cells : He.DefD := ⟨("_law_by_cells", none), "_law_by_cells", "_law_by_cells", defArgs s__law_by_cells, defBody s__law_by_cells, defScope s__law_by_cells, [], []⟩
def d__law_turned : He.DefD := ⟨("_law_turned", none), "_law_turned", "_law_turned", defArgs s__law_turned, defBody s__law_turned, defScope s__law_turned, [], []⟩
def d__law_put : He.DefD := ⟨("_law_put", none), "_law_put", "_law_put", defArgs s__law_put, defBody s__law_put, defScope s__law_put, [], []⟩
def d__law_after : He.DefD := ⟨("_law_after", none), "_law_after", "_law_after", defArgs s__law_after, defBody s__law_after, defScope s__law_after, [], []⟩
def d__law_draw : He.DefD := ⟨("_law_draw", none), "_law_draw", "_law_draw", defArgs s__law_draw, defBody s__law_draw, defScope s__law_draw, [], []⟩
def d__law_move : He.DefD := ⟨("_law_move", none), "_law_move", "_law_move", defArgs s__law_move, defBody s__law_move, defScope s__law_move, [], []⟩
def d__law_back : He.DefD := ⟨("_law_back", none), "_law_back", "_law_back", defArgs s__law_back, defBody s__law_back, defScope s__law_back, [], []⟩
def d__law_pick : He.DefD := ⟨("_law_pick", none), "_law_pick", "_law_pick", defArgs s__law_pick, defBody s__law_pick, defScope s__law_pick, [], []⟩
def d__law_still_points : He.DefD := ⟨("_law_still_points", none), "_law_still_points", "_law_still_points", defArgs s__law_still_points, defBody s__law_still_points, defScope s__law_still_points, [], []⟩
def d_is_integer : He.DefD := ⟨("is_integer", none), "is_integer", "is_integer", defArgs s_is_integer, defBody s_is_integer, defScope s_is_integer, [], []⟩
def d_is_between : He.DefD := ⟨("is_between", none), "is_between", "is_between", defArgs s_is_between, defBody s_is_between, defScope s_is_between, [], []⟩
def d_is_move : He.DefD := ⟨("is_move", none), "is_move", "is_move", defArgs s_is_move, defBody s_is_move, defScope s_is_move, [], []⟩
def d_need_move : He.DefD := ⟨("need_move", none), "need_move", "need_move", defArgs s_need_move, defBody s_need_move, defScope s_need_move, [], []⟩
def d_taken : He.DefD := ⟨("taken", none), "taken", "taken", defArgs s_taken, defBody s_taken, defScope s_taken, [], []⟩
def d_put : He.DefD := ⟨("put", none), "put", "put", defArgs s_put, defBody s_put, defScope s_put, [], []⟩
def d_joined_turn : He.DefD := ⟨("joined_turn", none), "joined_turn", "joined_turn", defArgs s_joined_turn, defBody s_joined_turn, defScope s_joined_turn, [], []⟩
def d_product : He.DefD := ⟨("product", none), "product", "product", defArgs s_product, defBody s_product, defScope s_product, [], []⟩
def d_power : He.DefD := ⟨("power", none), "power", "power", defArgs s_power, defBody s_power, defScope s_power, [], []⟩
def d_kind_of : He.DefD := ⟨("kind_of", none), "kind_of", "kind_of", defArgs s_kind_of, defBody s_kind_of, defScope s_kind_of, [], []⟩
def d_order_of : He.DefD := ⟨("order_of", none), "order_of", "order_of", defArgs s_order_of, defBody s_order_of, defScope s_order_of, [], []⟩
def d_times : He.DefD := ⟨("times", none), "times", "times", defArgs s_times, defBody s_times, defScope s_times, [], []⟩
def d_centre_of : He.DefD := ⟨("centre_of", none), "centre_of", "centre_of", defArgs s_centre_of, defBody s_centre_of, defScope s_centre_of, [], []⟩
def d_after : He.DefD := ⟨("after", none), "after", "after", defArgs s_after, defBody s_after, defScope s_after, [], []⟩
def d_undone_turn : He.DefD := ⟨("undone_turn", none), "undone_turn", "undone_turn", defArgs s_undone_turn, defBody s_undone_turn, defScope s_undone_turn, [], []⟩
def d_inverse : He.DefD := ⟨("inverse", none), "inverse", "inverse", defArgs s_inverse, defBody s_inverse, defScope s_inverse, [], []⟩
def d_back : He.DefD := ⟨("back", none), "back", "back", defArgs s_back, defBody s_back, defScope s_back, [], []⟩
def d__law_kind_of : He.DefD := ⟨("_law_kind_of", none), "_law_kind_of", "_law_kind_of", defArgs s__law_kind_of, defBody s__law_kind_of, defScope s__law_kind_of, [], []⟩
def d_conjugate : He.DefD := ⟨("conjugate", none), "conjugate", "conjugate", defArgs s_conjugate, defBody s_conjugate, defScope s_conjugate, [], []⟩
def d_seen_from : He.DefD := ⟨("seen_from", none), "seen_from", "seen_from", defArgs s_seen_from, defBody s_seen_from, defScope s_seen_from, [], []⟩
def d_repeated : He.DefD := ⟨("repeated", none), "repeated", "repeated", defArgs s_repeated, defBody s_repeated, defScope s_repeated, [], []⟩
def d_law : He.DefD := ⟨("law", none), "law", "law", defArgs s_law, defBody s_law, defScope s_law, [], []⟩
def fn : List He.DefD := ([d__law_pen, d__law_by_cells, d__law_turned, d__law_put, d__law_after, d__law_draw, d__law_move, d__law_back, d__law_pick, d__law_still_points, d_is_integer, d_is_between, d_is_move, d_need_move, d_taken, d_put, d_joined_turn, d_product, d_power, d_kind_of] : List He.DefD) ++ ([d_order_of, d_times, d_centre_of, d_after, d_undone_turn, d_inverse, d_back, d__law_kind_of, d_conjugate, d_seen_from, d_repeated, d_law] : List He.DefD)
def fa : List He.Fa := ([.glo "_law_pen", .glo "_law_by_cells", .glo "_law_turned", .glo "_law_put", .glo "_law_after", .glo "_law_draw", .glo "_law_move", .glo "_law_back", .glo "_law_pick", .glo "_law_still_points", .glo "is_integer", .glo "is_between", .glo "is_move", .glo "need_move", .glo "taken", .glo "put", .glo "joined_turn", .glo "product", .glo "power", .glo "kind_of"] : List He.Fa) ++ ([.glo "order_of", .glo "times", .glo "centre_of", .glo "after", .glo "undone_turn", .glo "inverse", .glo "back", .glo "_law_kind_of", .glo "conjugate", .glo "seen_from", .glo "repeated", .glo "law", .free "int", .free "range", .free "len", .free "abs", .free "isinstance", .free "bool", .free "tuple", .free "all"] : List He.Fa) ++ ([.free "repr", .int "TURNS" 8, .int "MOST_FAR" 1000000000000, .glo "STILL"] : List He.Fa)
def ex (K : DL.Fg) : Bool := He.tupB K "STILL" [.int 0, .int 0, .int 0] && true
def loose : List Str := (["is_integer", "is_between", "SeamError", "BadValue", "BadNumber", "STILL", "MOST_FAR", "TURNS", "is_move", "need_move", "taken", "put", "joined_turn", "undone_turn", "product", "inverse", "conjugate", "power", "order_of", "after"] : List Str) ++ (["back", "seen_from", "repeated", "times", "kind_of", "centre_of", "_law_pen", "_law_draw", "_law_pick", "_law_turned", "_law_put", "_law_by_cells", "_law_after", "_law_back", "_law_move", "_law_kind_of", "_law_still_points"] : List Str)
abbrev R : PySem.W.OpenRow := PySem.W.OpenLaw.row PySem.Challenge.rw_everyseam_k01_whole_moves_are_a_group
abbrev hk : PySem.W.Hook := DL.hookB 4 fa fn ex
def ob (s : PySem.W.SharedT) : DL.AlB := DL.obsB 4 fa fn ex (HandSHeadRun.getT s)
theorem ob_eq (s : PySem.W.SharedT) : ob s = hk.obs s.abs := DL.obsB_eq (HandSHeadRun.getT_eq s)
theorem run (w : World) : HandSHeadRun.RunEq R (PySem.W.view R.prog [41]) hk ob 2000 loose w := by
  intro os
  kernel_rfl
end Gk01
namespace Gk01
open PySem PySem.Spec PyProof.Rows L2 DL
theorem facts {P : Program} {w : World} {K : PySem.W.Frag} {h : Heap} {mg : Str → Option Value} {f : Addr} (X : K.In h) (G : h.Ns mainGlobals mg) (hfa : mg ("law" : Str) = some (.ref f)) (c : DL.SaysB fa fn ex K) :
    ∃ fd : FuncData, (∀ (s : Shared) (v : Value), BindsTo s fd ⟨[v], []⟩ [("script", v)]) ∧ ∀ base : Heap, K.In base → base.Ns mainGlobals mg → FnG P w K mg base 6 f fd ["script"] (spF K mg 1 .fz m_law) := by
  obtain ⟨fd0, F0⟩ := c.d.def_ 0 (d := d__law_pen) rfl
  obtain ⟨fd1, F1⟩ := c.d.def_ 1 (d := d__law_by_cells) rfl
  obtain ⟨fd2, F2⟩ := c.d.def_ 2 (d := d__law_turned) rfl
  obtain ⟨fd3, F3⟩ := c.d.def_ 3 (d := d__law_put) rfl
  obtain ⟨fd4, F4⟩ := c.d.def_ 4 (d := d__law_after) rfl
  obtain ⟨fd5, F5⟩ := c.d.def_ 5 (d := d__law_draw) rfl
  obtain ⟨fd6, F6⟩ := c.d.def_ 6 (d := d__law_move) rfl
  obtain ⟨fd7, F7⟩ := c.d.def_ 7 (d := d__law_back) rfl
  obtain ⟨fd8, F8⟩ := c.d.def_ 8 (d := d__law_pick) rfl
  obtain ⟨fd9, F9⟩ := c.d.def_ 9 (d := d__law_still_points) rfl
  obtain ⟨fd10, F10⟩ := c.d.def_ 10 (d := d_is_integer) rfl
  obtain ⟨fd11, F11⟩ := c.d.def_ 11 (d := d_is_between) rfl
  obtain ⟨fd12, F12⟩ := c.d.def_ 12 (d := d_is_move) rfl
  obtain ⟨fd13, F13⟩ := c.d.def_ 13 (d := d_need_move) rfl
  obtain ⟨fd14, F14⟩ := c.d.def_ 14 (d := d_taken) rfl
  obtain ⟨fd15, F15⟩ := c.d.def_ 15 (d := d_put) rfl
  obtain ⟨fd16, F16⟩ := c.d.def_ 16 (d := d_joined_turn) rfl
  obtain ⟨fd17, F17⟩ := c.d.def_ 17 (d := d_product) rfl
  obtain ⟨fd18, F18⟩ := c.d.def_ 18 (d := d_power) rfl
  obtain ⟨fd19, F19⟩ := c.d.def_ 19 (d := d_kind_of) rfl
  obtain ⟨fd20, F20⟩ := c.d.def_ 20 (d := d_order_of) rfl
  obtain ⟨fd21, F21⟩ := c.d.def_ 21 (d := d_times) rfl
  obtain ⟨fd22, F22⟩ := c.d.def_ 22 (d := d_centre_of) rfl
  obtain ⟨fd23, F23⟩ := c.d.def_ 23 (d := d_after) rfl
  obtain ⟨fd24, F24⟩ := c.d.def_ 24 (d := d_undone_turn) rfl
  obtain ⟨fd25, F25⟩ := c.d.def_ 25 (d := d_inverse) rfl
  obtain ⟨fd26, F26⟩ := c.d.def_ 26 (d := d_back) rfl
  obtain ⟨fd27, F27⟩ := c.d.def_ 27 (d := d__law_kind_of) rfl
  obtain ⟨fd28, F28⟩ := c.d.def_ 28 (d := d_conjugate) rfl
  obtain ⟨fd29, F29⟩ := c.d.def_ 29 (d := d_seen_from) rfl
  obtain ⟨fd30, F30⟩ := c.d.def_ 30 (d := d_repeated) rfl
  obtain ⟨fd31, F31⟩ := c.d.def_ 31 (d := d_law) rfl
  have m_int := He.free_ok X G (c.d.fact 32 (f := .free "int") rfl)
  have m_range := He.free_ok X G (c.d.fact 33 (f := .free "range") rfl)
  have m_len := He.free_ok X G (c.d.fact 34 (f := .free "len") rfl)
  have m_abs := He.free_ok X G (c.d.fact 35 (f := .free "abs") rfl)
  have m_isinstance := He.free_ok X G (c.d.fact 36 (f := .free "isinstance") rfl)
  have m_bool := He.free_ok X G (c.d.fact 37 (f := .free "bool") rfl)
  have m_tuple := He.free_ok X G (c.d.fact 38 (f := .free "tuple") rfl)
  have m_all := He.free_ok X G (c.d.fact 39 (f := .free "all") rfl)
  have m_repr := He.free_ok X G (c.d.fact 40 (f := .free "repr") rfl)
  have gi_TURNS := He.int_ok X G (c.d.fact 41 (f := .int "TURNS" 8) rfl)
  have gi_MOST_FAR := He.int_ok X G (c.d.fact 42 (f := .int "MOST_FAR" 1000000000000) rfl)
  have gt_STILL := And.intro (He.glo_ok X G (c.d.fact 43 (f := .glo "STILL") rfl)) (gtup_rd (He.ba c.x).1)
  have e := hfa.symm.trans (He.glo_ok X G (c.d.fact 31 (f := .glo "law") rfl))
  cases e
  have b := FunD.bindsA (ps := ["script"]) F31 fun _ _ _ _ _ _ us hl => match us, hl with | [_], _ => rfl
  refine ⟨fd31, fun s v => b s [v] rfl, fun base _ _ => ?_⟩
  have kb_centre_of_move : KwB K fd22 ["move"] ["move"] [0] := kwN F22 fun _ _ _ _ _ _ us hl => match us, hl with | [_], _ => rfl
  have kb_kind_of_move : KwB K fd19 ["move"] ["move"] [0] := kwN F19 fun _ _ _ _ _ _ us hl => match us, hl with | [_], _ => rfl
  have kb_repeated_many_move : KwB K fd30 ["move", "many"] ["many", "move"] [1, 0] := kwN F30 fun _ _ _ _ _ _ us hl => match us, hl with | [_, _], _ => rfl
  have kb_seen_from_other_move : KwB K fd29 ["move", "other"] ["other", "move"] [1, 0] := kwN F29 fun _ _ _ _ _ _ us hl => match us, hl with | [_, _], _ => rfl
  have kb_times_move : KwB K fd21 ["move"] ["move"] [0] := kwN F21 fun _ _ _ _ _ _ us hl => match us, hl with | [_], _ => rfl
  have c__law_pen : Got P w K mg base 1 fd0 "_law_pen" ["script"] (spF K mg 1 (.lst .fz) m__law_pen) := ⟨ok__law_pen F0 m_int, F0.bindsN (fun _ _ _ _ _ _ us hl => match us, hl with | [_], _ => rfl), He.glo_ok X G (c.d.fact 0 (f := .glo "_law_pen") rfl), F0.kp⟩
  have c__law_by_cells : Got P w K mg base 1 fd1 "_law_by_cells" ["origin", "right", "up"] (spF K mg 3 (.fz) m__law_by_cells) := ⟨ok__law_by_cells F1 , F1.bindsN (fun _ _ _ _ _ _ us hl => match us, hl with | [_, _, _], _ => rfl), He.glo_ok X G (c.d.fact 1 (f := .glo "_law_by_cells") rfl), F1.kp⟩
  have c__law_turned : Got P w K mg base 1 fd2 "_law_turned" ["turn", "cell"] (spF K mg 2 (.fz) m__law_turned) := ⟨ok__law_turned F2 m_int m_range, F2.bindsN (fun _ _ _ _ _ _ us hl => match us, hl with | [_, _], _ => rfl), He.glo_ok X G (c.d.fact 2 (f := .glo "_law_turned") rfl), F2.kp⟩
  have c__law_put : Got P w K mg base 2 fd3 "_law_put" ["move", "cell"] (spF K mg 2 (.fz) m__law_put) := ⟨ok__law_put F3 c__law_turned, F3.bindsN (fun _ _ _ _ _ _ us hl => match us, hl with | [_, _], _ => rfl), He.glo_ok X G (c.d.fact 3 (f := .glo "_law_put") rfl), F3.kp⟩
  have c__law_after : Got P w K mg base 3 fd4 "_law_after" ["one", "other"] (spF K mg 2 (.fz) m__law_after) := ⟨ok__law_after F4 c__law_put c__law_by_cells, F4.bindsN (fun _ _ _ _ _ _ us hl => match us, hl with | [_, _], _ => rfl), He.glo_ok X G (c.d.fact 4 (f := .glo "_law_after") rfl), F4.kp⟩
  have c__law_draw : Got P w K mg base 1 fd5 "_law_draw" ["pen", "many"] (spP K mg 1 (.fz) m__law_draw) := ⟨ok__law_draw F5 m_int m_len m_abs, F5.bindsN (fun _ _ _ _ _ _ us hl => match us, hl with | [_, _], _ => rfl), He.glo_ok X G (c.d.fact 5 (f := .glo "_law_draw") rfl), F5.kp⟩
  have c__law_move : Got P w K mg base 2 fd6 "_law_move" ["pen", "far"] (spP K mg 1 (.fz) m__law_move) := ⟨ok__law_move F6 c__law_draw, F6.bindsN (fun _ _ _ _ _ _ us hl => match us, hl with | [_, _], _ => rfl), He.glo_ok X G (c.d.fact 6 (f := .glo "_law_move") rfl), F6.kp⟩
  have c__law_back : Got P w K mg base 2 fd7 "_law_back" ["move"] (spF K mg 1 (.fz) m__law_back) := ⟨ok__law_back F7 m_range c__law_turned, F7.bindsN (fun _ _ _ _ _ _ us hl => match us, hl with | [_], _ => rfl), He.glo_ok X G (c.d.fact 7 (f := .glo "_law_back") rfl), F7.kp⟩
  have c__law_pick : Got P w K mg base 2 fd8 "_law_pick" ["pen", "some"] (spP K mg 1 (.fz) m__law_pick) := ⟨ok__law_pick F8 c__law_draw m_len, F8.bindsN (fun _ _ _ _ _ _ us hl => match us, hl with | [_, _], _ => rfl), He.glo_ok X G (c.d.fact 8 (f := .glo "_law_pick") rfl), F8.kp⟩
  have c__law_still_points : Got P w K mg base 2 fd9 "_law_still_points" ["move"] (spF K mg 1 (.fz) m__law_still_points) := ⟨ok__law_still_points F9 m_abs m_range c__law_turned, F9.bindsN (fun _ _ _ _ _ _ us hl => match us, hl with | [_], _ => rfl), He.glo_ok X G (c.d.fact 9 (f := .glo "_law_still_points") rfl), F9.kp⟩
  have c_is_integer : Got P w K mg base 1 fd10 "is_integer" ["value"] (spF K mg 1 (.fz) m_is_integer) := ⟨ok_is_integer F10 m_isinstance m_int m_bool, F10.bindsN (fun _ _ _ _ _ _ us hl => match us, hl with | [_], _ => rfl), He.glo_ok X G (c.d.fact 10 (f := .glo "is_integer") rfl), F10.kp⟩
  have c_is_between : Got P w K mg base 2 fd11 "is_between" ["value", "least", "most"] (spF K mg 3 (.fz) m_is_between) := ⟨ok_is_between F11 c_is_integer, F11.bindsN (fun _ _ _ _ _ _ us hl => match us, hl with | [_, _, _], _ => rfl), He.glo_ok X G (c.d.fact 11 (f := .glo "is_between") rfl), F11.kp⟩
  have c_is_move : Got P w K mg base 3 fd12 "is_move" ["value"] (spF K mg 1 (.fz) m_is_move) := ⟨ok_is_move F12 m_isinstance m_tuple m_len c_is_between gi_TURNS gi_MOST_FAR m_all, F12.bindsN (fun _ _ _ _ _ _ us hl => match us, hl with | [_], _ => rfl), He.glo_ok X G (c.d.fact 12 (f := .glo "is_move") rfl), F12.kp⟩
  have c_need_move : Got P w K mg base 4 fd13 "need_move" ["part", "value"] (spF K mg 2 (.fz) m_need_move) := ⟨ok_need_move F13 c_is_move, F13.bindsN (fun _ _ _ _ _ _ us hl => match us, hl with | [_, _], _ => rfl), He.glo_ok X G (c.d.fact 13 (f := .glo "need_move") rfl), F13.kp⟩
  have c_taken : Got P w K mg base 1 fd14 "taken" ["turn", "cell"] (spF K mg 2 (.fz) m_taken) := ⟨ok_taken F14 m_range, F14.bindsN (fun _ _ _ _ _ _ us hl => match us, hl with | [_, _], _ => rfl), He.glo_ok X G (c.d.fact 14 (f := .glo "taken") rfl), F14.kp⟩
  have c_put : Got P w K mg base 2 fd15 "put" ["move", "cell"] (spF K mg 2 (.fz) m_put) := ⟨ok_put F15 c_taken, F15.bindsN (fun _ _ _ _ _ _ us hl => match us, hl with | [_, _], _ => rfl), He.glo_ok X G (c.d.fact 15 (f := .glo "put") rfl), F15.kp⟩
  have c_joined_turn : Got P w K mg base 1 fd16 "joined_turn" ["one", "other"] (spF K mg 2 (.fz) m_joined_turn) := ⟨ok_joined_turn F16 , F16.bindsN (fun _ _ _ _ _ _ us hl => match us, hl with | [_, _], _ => rfl), He.glo_ok X G (c.d.fact 16 (f := .glo "joined_turn") rfl), F16.kp⟩
  have c_product : Got P w K mg base 3 fd17 "product" ["one", "other"] (spF K mg 2 (.fz) m_product) := ⟨ok_product F17 c_put c_joined_turn, F17.bindsN (fun _ _ _ _ _ _ us hl => match us, hl with | [_, _], _ => rfl), He.glo_ok X G (c.d.fact 17 (f := .glo "product") rfl), F17.kp⟩
  have c_power : Got P w K mg base 4 fd18 "power" ["move", "many"] (spF K mg 2 (.fz) m_power) := ⟨ok_power F18 gt_STILL c_product, F18.bindsN (fun _ _ _ _ _ _ us hl => match us, hl with | [_, _], _ => rfl), He.glo_ok X G (c.d.fact 18 (f := .glo "power") rfl), F18.kp⟩
  have c_kind_of : Got P w K mg base 5 fd19 "kind_of" ["move"] (spF K mg 1 (.fz) m_kind_of) := ⟨ok_kind_of F19 c_need_move gt_STILL c_power, F19.bindsN (fun _ _ _ _ _ _ us hl => match us, hl with | [_], _ => rfl), He.glo_ok X G (c.d.fact 19 (f := .glo "kind_of") rfl), F19.kp⟩
  have c_order_of : Got P w K mg base 1 fd20 "order_of" ["turn"] (spF K mg 1 (.fz) m_order_of) := ⟨ok_order_of F20 , F20.bindsN (fun _ _ _ _ _ _ us hl => match us, hl with | [_], _ => rfl), He.glo_ok X G (c.d.fact 20 (f := .glo "order_of") rfl), F20.kp⟩
  have c_times : Got P w K mg base 5 fd21 "times" ["move"] (spF K mg 1 (.fz) m_times) := ⟨ok_times F21 c_need_move c_order_of c_power gt_STILL, F21.bindsN (fun _ _ _ _ _ _ us hl => match us, hl with | [_], _ => rfl), He.glo_ok X G (c.d.fact 21 (f := .glo "times") rfl), F21.kp⟩
  have c_centre_of : Got P w K mg base 5 fd22 "centre_of" ["move"] (spF K mg 1 (.fz) m_centre_of) := ⟨ok_centre_of F22 c_need_move, F22.bindsN (fun _ _ _ _ _ _ us hl => match us, hl with | [_], _ => rfl), He.glo_ok X G (c.d.fact 22 (f := .glo "centre_of") rfl), F22.kp⟩
  have c_after : Got P w K mg base 5 fd23 "after" ["one", "other"] (spF K mg 2 (.fz) m_after) := ⟨ok_after F23 c_need_move c_product, F23.bindsN (fun _ _ _ _ _ _ us hl => match us, hl with | [_, _], _ => rfl), He.glo_ok X G (c.d.fact 23 (f := .glo "after") rfl), F23.kp⟩
  have c_undone_turn : Got P w K mg base 1 fd24 "undone_turn" ["turn"] (spF K mg 1 (.fz) m_undone_turn) := ⟨ok_undone_turn F24 , F24.bindsN (fun _ _ _ _ _ _ us hl => match us, hl with | [_], _ => rfl), He.glo_ok X G (c.d.fact 24 (f := .glo "undone_turn") rfl), F24.kp⟩
  have c_inverse : Got P w K mg base 2 fd25 "inverse" ["move"] (spF K mg 1 (.fz) m_inverse) := ⟨ok_inverse F25 c_undone_turn c_taken, F25.bindsN (fun _ _ _ _ _ _ us hl => match us, hl with | [_], _ => rfl), He.glo_ok X G (c.d.fact 25 (f := .glo "inverse") rfl), F25.kp⟩
  have c_back : Got P w K mg base 5 fd26 "back" ["move"] (spF K mg 1 (.fz) m_back) := ⟨ok_back F26 c_need_move c_inverse, F26.bindsN (fun _ _ _ _ _ _ us hl => match us, hl with | [_], _ => rfl), He.glo_ok X G (c.d.fact 26 (f := .glo "back") rfl), F26.kp⟩
  have c__law_kind_of : Got P w K mg base 4 fd27 "_law_kind_of" ["move"] (spF K mg 1 (.fz) m__law_kind_of) := ⟨ok__law_kind_of F27 c__law_after, F27.bindsN (fun _ _ _ _ _ _ us hl => match us, hl with | [_], _ => rfl), He.glo_ok X G (c.d.fact 27 (f := .glo "_law_kind_of") rfl), F27.kp⟩
  have c_conjugate : Got P w K mg base 4 fd28 "conjugate" ["move", "other"] (spF K mg 2 (.fz) m_conjugate) := ⟨ok_conjugate F28 c_product c_inverse, F28.bindsN (fun _ _ _ _ _ _ us hl => match us, hl with | [_, _], _ => rfl), He.glo_ok X G (c.d.fact 28 (f := .glo "conjugate") rfl), F28.kp⟩
  have c_seen_from : Got P w K mg base 5 fd29 "seen_from" ["move", "other"] (spF K mg 2 (.fz) m_seen_from) := ⟨ok_seen_from F29 c_need_move c_conjugate, F29.bindsN (fun _ _ _ _ _ _ us hl => match us, hl with | [_, _], _ => rfl), He.glo_ok X G (c.d.fact 29 (f := .glo "seen_from") rfl), F29.kp⟩
  have c_repeated : Got P w K mg base 5 fd30 "repeated" ["move", "many"] (spF K mg 2 (.fz) m_repeated) := ⟨ok_repeated F30 c_need_move c_is_between c_power, F30.bindsN (fun _ _ _ _ _ _ us hl => match us, hl with | [_, _], _ => rfl), He.glo_ok X G (c.d.fact 30 (f := .glo "repeated") rfl), F30.kp⟩
  exact ok_law F31 c__law_pen m_range c__law_move c_after gt_STILL c_back c__law_after c__law_back c_seen_from kb_seen_from_other_move m_repr c__law_pick c__law_draw c_repeated kb_repeated_many_move c_times kb_times_move c_kind_of c__law_kind_of kb_kind_of_move c__law_still_points c_centre_of kb_centre_of_move
end Gk01
namespace Gk01
open PySem DL
def mix1 (c a : Int) : Int := (c % 2147483587 + 46383 * a + 3177) ^ 5 % 2147483563
def mix2 (c a : Int) : Int := (mix1 c a * (2 * a + 6219) + 91541 * a * a + 46383) ^ 3 % 2147483549
theorem draw_ok (cs : List Int) (a r m : Int) (h0 : 0 ≤ a) (h1 : a ≤ 100000) (hm : 0 < m) (hm2 : m < 18446744073709551616) :
    ∃ v a' r', m__law_draw [.lst [.lst (cs.map .int), .int a, .int r], .int m] = .ok (.int v) [some (.lst [.lst (cs.map .int), .int a', .int r'])] ∧ 0 ≤ v ∧ v < m ∧ a ≤ a' ∧ a' ≤ a + 1 := by
  have hd := divOk_of hm hm2
  have hm0 : m ≠ 0 := by omega
  have hm1 : 0 ≤ m := by omega
  by_cases hr : 0 < r
  · refine ⟨r % m, a, r / m, ?_, Int.emod_nonneg _ hm0, Int.emod_lt_of_pos _ hm, Int.le_refl _, by omega⟩
    simp [m__law_draw, b__law_draw, hr, hd, hm0, fmod_pos hm, fdiv_pos hm]
  · have m1 : mulOk 61587 a = true := mulOk_l (by decide)
    have m2 : mulOk 46383 a = true := mulOk_l (by decide)
    have m3 : mulOk 2 a = true := mulOk_l (by decide)
    have m4 : mulOk 91541 a = true := mulOk_l (by decide)
    have m5 : mulOk (91541 * a) a = true := mulOk_r (by omega)
    have m6 : ∀ c, mulOk (mix1 c a) (2 * a + 6219) = true := fun c => mulOk_r (by omega)
    have m7 : ∀ c, mulOk 2 c = true := fun c => mulOk_l (by decide)
    have hq : a * a ≤ 100000 * 100000 := Int.mul_le_mul h1 h1 h0 (by decide)
    have hq0 : 0 ≤ a * a := Int.mul_nonneg h0 h0
    have n1 : ∀ c, 0 ≤ mix1 c a ∧ mix1 c a < 2147483563 := fun c => ⟨Int.emod_nonneg _ (by decide), Int.emod_lt_of_pos _ (by decide)⟩
    have n2 : ∀ c, 0 ≤ mix1 c a * (2 * a + 6219) ∧ mix1 c a * (2 * a + 6219) ≤ 2147483563 * 206219 := fun c => ⟨Int.mul_nonneg (n1 c).1 (by omega), Int.mul_le_mul (Int.le_of_lt (n1 c).2) (by omega) (by omega) (by decide)⟩
    have n3 : 91541 * a * a = 91541 * (a * a) := by rw [Int.mul_assoc]
    have p1 : gPow (.int 10) (.int 18) = some (.int 1000000000000000000) := powOk (i := 10) (k := 18) (by decide) (by decide)
    have p2 : ∀ c : Int, gPow (.int (c % 2147483587 + 46383 * a + 3177)) (.int 5) = some (.int ((c % 2147483587 + 46383 * a + 3177) ^ 5)) := fun c => powOk (k := 5) (by omega) (by decide)
    have p3 : ∀ c : Int, gPow (.int (mix1 c a * (2 * a + 6219) + 91541 * a * a + 46383)) (.int 3) = some (.int ((mix1 c a * (2 * a + 6219) + 91541 * a * a + 46383) ^ 3)) := fun c => powOk (k := 3) (by have := n2 c; omega) (by decide)
    have k1 : ∀ c : Int, (c % 2147483587 + 46383 * a + 3177) ^ 5 % 2147483563 = mix1 c a := fun c => rfl
    have k2 : ∀ c : Int, (mix1 c a * (2 * a + 6219) + 91541 * a * a + 46383) ^ 3 % 2147483549 = mix2 c a := fun c => rfl
    have d32 : divOk 32 = true := divOk_of (by decide) (by decide)
    have hlt : ¬ (a < 0) := by omega
    have e0 := ne_nil cs
    by_cases hc : cs = []
    · subst hc
      refine ⟨mix2 (61587 * a + 6219) a / 32 % m, a + 1, r, ?_, Int.emod_nonneg _ hm0, Int.emod_lt_of_pos _ hm, by omega, Int.le_refl _⟩
      simp only [List.map_nil, List.isEmpty_nil] at e0
      simp [m__law_draw, b__law_draw, hr, hd, hm0, hm1, m1, m2, m3, m4, m5, m6, m7, e0, hlt, p1, p2, p3, k1, k2, d32, -s_powI, Int.fmod_eq_emod_of_nonneg, Int.fdiv_eq_ediv_of_nonneg]
    · obtain ⟨c, ec⟩ := pick_at hc a
      have hl : cs.length ≠ 0 := fun z => hc (List.length_eq_zero_iff.mp z)
      by_cases hb : a < (cs.length : Int) ∧ 1000000000000000000 ≤ (if c < 0 then -c else c)
      · refine ⟨(2 * ((if c < 0 then -c else c) - 1000000000000000000) + (if c < 0 then 1 else 0)) % m, a + 1, (2 * ((if c < 0 then -c else c) - 1000000000000000000) + (if c < 0 then 1 else 0)) / m, ?_, Int.emod_nonneg _ hm0, Int.emod_lt_of_pos _ hm, by omega, Int.le_refl _⟩
        simp [m__law_draw, b__law_draw, hr, hd, hm0, hm1, m1, m2, m3, m4, m5, m6, m7, e0, hlt, p1, p2, p3, k1, k2, d32, hc, ec, hl, hb.1, hb.2, -s_powI, Int.fmod_eq_emod_of_nonneg, Int.fdiv_eq_ediv_of_nonneg]
      · refine ⟨mix2 c a / 32 % m, a + 1, r, ?_, Int.emod_nonneg _ hm0, Int.emod_lt_of_pos _ hm, by omega, Int.le_refl _⟩
        by_cases hb1 : a < (cs.length : Int)
        · have hb2 : ¬ (1000000000000000000 ≤ (if c < 0 then -c else c)) := fun z => hb ⟨hb1, z⟩
          simp [m__law_draw, b__law_draw, hr, hd, hm0, hm1, m1, m2, m3, m4, m5, m6, m7, e0, hlt, p1, p2, p3, k1, k2, d32, hc, ec, hl, hb1, hb2, -s_powI, Int.fmod_eq_emod_of_nonneg, Int.fdiv_eq_ediv_of_nonneg]
        · simp [m__law_draw, b__law_draw, hr, hd, hm0, hm1, m1, m2, m3, m4, m5, m6, m7, e0, hlt, p1, p2, p3, k1, k2, d32, hc, ec, hl, hb1, -s_powI, Int.fmod_eq_emod_of_nonneg, Int.fdiv_eq_ediv_of_nonneg]
/-- the pen: cells, a place, a rest -/
def Pen (k : Int) (xs : List D) : Prop := ∃ (cs : List Int) (a r : Int), xs = [.lst (cs.map .int), .int a, .int r] ∧ 0 ≤ a ∧ a ≤ k
theorem Pen.draw {k m : Int} {xs : List D} (h : Pen k xs) (hk : k ≤ 99999) (hm : 0 < m) (hm2 : m < 18446744073709551616) : ∃ v ys, m__law_draw [.lst xs, .int m] = .ok (.int v) [some (.lst ys)] ∧ Pen (k + 1) ys ∧ 0 ≤ v ∧ v < m := by
  obtain ⟨cs, a, r, rfl, h0, h1⟩ := h
  obtain ⟨v, a', r', e, p, q, s, t⟩ := draw_ok cs a r m h0 (by omega) hm hm2
  exact ⟨v, _, e, ⟨cs, a', r', rfl, by omega, by omega⟩, p, q⟩
theorem Pen.mono {j k : Int} {xs : List D} (h : Pen j xs) (l : j ≤ k) : Pen k xs := by
  obtain ⟨cs, a, r, e, h0, h1⟩ := h
  exact ⟨cs, a, r, e, h0, by omega⟩
theorem pen0 (ns : List Int) (h : ns.length ≤ 63) : ∃ xs, m__law_pen [.scr (ns.map D.int)] = .ok (.lst xs) [] ∧ Pen 0 xs := by
  have hc : cutD (ns.map D.int) none (some 63) = ns.map D.int := by
    refine cutD_all _ _ _ ⟨rfl, ?_⟩
    rw [List.length_map]
    show HT.sIx ns.length ns.length (some ((63 : Nat) : Int)) = _
    rw [HT.sIx_nat]
    omega
  have hl : ∀ (cs : List Int) (z : Option D), ∃ z', lcL [1] (gSet 1) yesM (appM gIntC (consM (getV 1) nilM)) (cs.map D.int) [z, none] = .ok (cs.map D.int) [z, z'] := by
    intro cs z
    obtain ⟨ρ', e, z', h⟩ := lc_inv (vs := [1]) (t := gSet 1) (tt := yesM) (te := appM gIntC (consM (getV 1) nilM)) (fun ρ => ∃ z', ρ = [z, z']) some (ds := cs.map D.int) (ρ := [z, none]) ⟨none, rfl⟩ (by
      rintro d hd ρ ⟨z', rfl⟩
      obtain ⟨c, _, rfl⟩ := List.mem_map.mp hd
      exact ⟨_, _, true, rfl, rfl, .inr ⟨rfl, _, _, rfl, rfl, none, rfl⟩⟩)
    subst h
    rw [List.filterMap_some] at e
    exact ⟨z', e⟩
  refine ⟨[.lst (ns.map D.int), .int 0, .int 0], ?_, ns, 0, 0, rfl, Int.le_refl _, Int.le_refl _⟩
  obtain ⟨z', e⟩ := hl ns (some (.scr (ns.map D.int)))
  simp [m__law_pen, b__law_pen, hc, show ns.length ≤ 16777216 by omega, e]
end Gk01
namespace Gk01
open PySem DL
/-! ### plain functions -/
def fx (t x : Int) : Int := if 3 < t then -x else x
def tkx (t x y : Int) : Int := if t % 4 = 0 then fx t x else if t % 4 = 1 then -y else if t % 4 = 2 then -(fx t x) else y
def tky (t x y : Int) : Int := if t % 4 = 0 then y else if t % 4 = 1 then fx t x else if t % 4 = 2 then -y else -(fx t x)
def jt (t u : Int) : Int := (if 3 < t then t + -u else t + u) % 4 + (if (decide (3 < t) != decide (3 < u)) = true then 4 else 0)
def ut (t : Int) : Int := if 3 < t then t else (-t) % 4
theorem eight {t : Int} (h : 0 ≤ t) (h2 : t < 8) : t = 0 ∨ t = 1 ∨ t = 2 ∨ t = 3 ∨ t = 4 ∨ t = 5 ∨ t = 6 ∨ t = 7 := by omega
abbrev T2 (x y : Int) : D := .tup [.int x, .int y]
abbrev T3 (t x y : Int) : D := .tup [.int t, .int x, .int y]
theorem w_taken {t : Int} (h : 0 ≤ t) (h2 : t < 8) (x y : Int) : m_taken [.int t, T2 x y] = .ok (T2 (tkx t x y) (tky t x y)) [] := by
  rcases eight h h2 with rfl | rfl | rfl | rfl | rfl | rfl | rfl | rfl <;> simp [m_taken, b_taken, l0_taken, rng1, small, DL.intsFrom, tkx, tky, fx, List.range, List.range.loop]
theorem w_lturned {t : Int} (h : 0 ≤ t) (h2 : t < 8) (x y : Int) : m__law_turned [.int t, T2 x y] = .ok (T2 (tkx t x y) (tky t x y)) [] := by
  rcases eight h h2 with rfl | rfl | rfl | rfl | rfl | rfl | rfl | rfl <;> simp [m__law_turned, b__law_turned, l0__law_turned, rng1, small, DL.intsFrom, tkx, tky, fx, List.range, List.range.loop]
theorem w_put {t : Int} (h : 0 ≤ t) (h2 : t < 8) (a b x y : Int) : m_put [T3 t a b, T2 x y] = .ok (T2 (tkx t x y + a) (tky t x y + b)) [] := by
  simp [m_put, b_put, w_taken h h2]
theorem w_lput {t : Int} (h : 0 ≤ t) (h2 : t < 8) (a b x y : Int) : m__law_put [T3 t a b, T2 x y] = .ok (T2 (tkx t x y + a) (tky t x y + b)) [] := by
  simp [m__law_put, b__law_put, w_lturned h h2]
theorem w_joined (t u : Int) : m_joined_turn [.int t, .int u] = .ok (.int (jt t u)) [] := by
  unfold jt
  by_cases h1 : 3 < t <;> by_cases h2 : 3 < u <;> simp [m_joined_turn, b_joined_turn, h1, h2, Int.fmod_eq_emod_of_nonneg]
theorem cut3 {x y z : D} : cutD [x, y, z] (some 1) none = [y, z] := rfl
theorem w_product {t u : Int} (h : 0 ≤ t) (h2 : t < 8) (a b x y : Int) : m_product [T3 t a b, T3 u x y] = .ok (T3 (jt t u) (tkx t x y + a) (tky t x y + b)) [] := by
  simp [m_product, b_product, cut3, w_put h h2, w_joined]
theorem w_between (x a b : Int) : m_is_between [.int x, .int a, .int b] = .ok (.bl (decide (a ≤ x ∧ x ≤ b))) [] := by
  by_cases h : a ≤ x <;> simp [m_is_between, b_is_between, m_is_integer, b_is_integer, h]
abbrev Far (x : Int) : Prop := -1000000000000 ≤ x ∧ x ≤ 1000000000000
theorem w_is_move {t a b : Int} (h : 0 ≤ t) (h2 : t < 8) (ha : Far a) (hb : Far b) : m_is_move [T3 t a b] = .ok (.bl true) [] := by
  simp [m_is_move, b_is_move, w_between, cut3, ha, hb, h, show t ≤ 7 by omega]
theorem w_need_move {s : Str} {t a b : Int} (h : 0 ≤ t) (h2 : t < 8) (ha : Far a) (hb : Far b) : m_need_move [.str s, T3 t a b] = .ok .non [] := by
  simp [m_need_move, b_need_move, w_is_move h h2 ha hb]
theorem w_undone {t : Int} : m_undone_turn [.int t] = .ok (.int (ut t)) [] := by
  unfold ut
  by_cases h1 : 3 < t <;> simp [m_undone_turn, b_undone_turn, h1, Int.fmod_eq_emod_of_nonneg]
theorem ut_lt {t : Int} (h : 0 ≤ t) (h2 : t < 8) : 0 ≤ ut t ∧ ut t < 8 := by
  unfold ut; split <;> omega
theorem w_inverse {t : Int} (h : 0 ≤ t) (h2 : t < 8) (a b : Int) : m_inverse [T3 t a b] = .ok (T3 (ut t) (-(tkx (ut t) a b)) (-(tky (ut t) a b))) [] := by
  simp [m_inverse, b_inverse, cut3, w_undone, w_taken (ut_lt h h2).1 (ut_lt h h2).2]
theorem w_after {t a b u x y : Int} (h : 0 ≤ t) (h2 : t < 8) (ha : Far a) (hb : Far b) (h3 : 0 ≤ u) (h4 : u < 8) (hx : Far x) (hy : Far y) : m_after [T3 t a b, T3 u x y] = .ok (T3 (jt t u) (tkx t x y + a) (tky t x y + b)) [] := by
  simp [m_after, b_after, w_need_move h h2 ha hb, w_need_move h3 h4 hx hy, w_product h h2]
theorem w_back {t a b : Int} (h : 0 ≤ t) (h2 : t < 8) (ha : Far a) (hb : Far b) : m_back [T3 t a b] = .ok (T3 (ut t) (-(tkx (ut t) a b)) (-(tky (ut t) a b))) [] := by
  simp [m_back, b_back, w_need_move h h2 ha hb, w_inverse h h2]
/-! ### the law's own -/
abbrev tab : List D := [.lst [T2 1 0, T2 0 1], .lst [T2 0 1, T2 (-1) 0], .lst [T2 (-1) 0, T2 0 (-1)], .lst [T2 0 (-1), T2 1 0], .lst [T2 (-1) 0, T2 0 1], .lst [T2 0 (-1), T2 (-1) 0], .lst [T2 1 0, T2 0 (-1)], .lst [T2 0 1, T2 1 0]]
theorem ix0 : gIndex (.lst tab) [.lst [T2 1 0, T2 0 1]] = some (.int 0) := by rfl
theorem ix1 : gIndex (.lst tab) [.lst [T2 0 1, T2 (-1) 0]] = some (.int 1) := by rfl
theorem ix2 : gIndex (.lst tab) [.lst [T2 (-1) 0, T2 0 (-1)]] = some (.int 2) := by rfl
theorem ix3 : gIndex (.lst tab) [.lst [T2 0 (-1), T2 1 0]] = some (.int 3) := by rfl
theorem ix4 : gIndex (.lst tab) [.lst [T2 (-1) 0, T2 0 1]] = some (.int 4) := by rfl
theorem ix5 : gIndex (.lst tab) [.lst [T2 0 (-1), T2 (-1) 0]] = some (.int 5) := by rfl
theorem ix6 : gIndex (.lst tab) [.lst [T2 1 0, T2 0 (-1)]] = some (.int 6) := by rfl
theorem ix7 : gIndex (.lst tab) [.lst [T2 0 1, T2 1 0]] = some (.int 7) := by rfl
theorem w_by_cells {j ox oy rx ry vx vy : Int} (h : 0 ≤ j) (h2 : j < 8) (a : rx - ox = tkx j 1 0) (b : ry - oy = tky j 1 0) (c : vx - ox = tkx j 0 1) (d : vy - oy = tky j 0 1) :
    m__law_by_cells [T2 ox oy, T2 rx ry, T2 vx vy] = .ok (T3 j ox oy) [] := by
  rcases eight h h2 with rfl | rfl | rfl | rfl | rfl | rfl | rfl | rfl <;> simp [tkx, tky, fx] at a b c d <;>
    simp [m__law_by_cells, b__law_by_cells, a, b, c, d, tyD, ix0, ix1, ix2, ix3, ix4, ix5, ix6, ix7]
theorem jt_lt {t u : Int} (h : 0 ≤ t) (h2 : t < 8) (h3 : 0 ≤ u) (h4 : u < 8) : 0 ≤ jt t u ∧ jt t u < 8 := by
  rcases eight h h2 with rfl | rfl | rfl | rfl | rfl | rfl | rfl | rfl <;> rcases eight h3 h4 with rfl | rfl | rfl | rfl | rfl | rfl | rfl | rfl <;> decide
/-- one turn behind another -/
theorem tk_tk {t u : Int} (h : 0 ≤ t) (h2 : t < 8) (h3 : 0 ≤ u) (h4 : u < 8) (x y : Int) : tkx (jt t u) x y = tkx t (tkx u x y) (tky u x y) ∧ tky (jt t u) x y = tky t (tkx u x y) (tky u x y) := by
  rcases eight h h2 with rfl | rfl | rfl | rfl | rfl | rfl | rfl | rfl <;> rcases eight h3 h4 with rfl | rfl | rfl | rfl | rfl | rfl | rfl | rfl <;> simp [tkx, tky, fx, jt]
theorem tk_add {t : Int} (h : 0 ≤ t) (h2 : t < 8) (x y a b : Int) : tkx t (x + a) (y + b) = tkx t x y + tkx t a b ∧ tky t (x + a) (y + b) = tky t x y + tky t a b := by
  rcases eight h h2 with rfl | rfl | rfl | rfl | rfl | rfl | rfl | rfl <;> simp [tkx, tky, fx] <;> omega
theorem tk_ut {t : Int} (h : 0 ≤ t) (h2 : t < 8) (x y : Int) : tkx (ut t) (tkx t x y) (tky t x y) = x ∧ tky (ut t) (tkx t x y) (tky t x y) = y := by
  rcases eight h h2 with rfl | rfl | rfl | rfl | rfl | rfl | rfl | rfl <;> simp [tkx, tky, fx, ut]
theorem tk_0 {t : Int} (h : 0 ≤ t) (h2 : t < 8) : tkx t 0 0 = 0 ∧ tky t 0 0 = 0 := by
  rcases eight h h2 with rfl | rfl | rfl | rfl | rfl | rfl | rfl | rfl <;> decide
theorem w_lafter {t a b u x y : Int} (h : 0 ≤ t) (h2 : t < 8) (h3 : 0 ≤ u) (h4 : u < 8) : m__law_after [T3 t a b, T3 u x y] = .ok (T3 (jt t u) (tkx t x y + a) (tky t x y + b)) [] := by
  have J := jt_lt h h2 h3 h4
  have e0 := tk_0 h3 h4
  have e1 := tk_add h h2 (tkx u 1 0) (tky u 1 0) x y
  have e2 := tk_add h h2 (tkx u 0 1) (tky u 0 1) x y
  have f1 := tk_tk h h2 h3 h4 1 0
  have f2 := tk_tk h h2 h3 h4 0 1
  have g : m__law_by_cells [T2 (tkx t x y + a) (tky t x y + b), T2 (tkx t (tkx u 1 0 + x) (tky u 1 0 + y) + a) (tky t (tkx u 1 0 + x) (tky u 1 0 + y) + b), T2 (tkx t (tkx u 0 1 + x) (tky u 0 1 + y) + a) (tky t (tkx u 0 1 + x) (tky u 0 1 + y) + b)] = _ :=
    w_by_cells J.1 J.2 (by omega) (by omega) (by omega) (by omega)
  simp [m__law_after, b__law_after, w_lput h h2, w_lput h3 h4, e0, g]
abbrev Few (x : Int) : Prop := -1000000000000000000000 ≤ x ∧ x ≤ 1000000000000000000000
theorem okT_pairs {a b c d : Int} (ha : Few a) (hb : Few b) (hc : Few c) (hd : Few d) : okT (.lst [T2 a b, T2 c d]) = true := by
  simp [okT, inB, inBs, dpD, dpDs, wtD, wtDs]
  omega
theorem eq_pairs {a b c d : Int} (ha : Few a) (hb : Few b) (hc : Few c) (hd : Few d) : gEq (.lst [T2 a b, T2 c d]) (.lst [T2 1 0, T2 0 1]) = some (.bl (decide (a = 1) && decide (b = 0) && (decide (c = 0) && decide (d = 1)))) := by
  rw [gEq_ok (okT_pairs ha hb hc hd) (by rfl), eqD_lst, eqs_cons, eqs_cons, eqs_nil, eqD_tup, eqD_tup, eqs_cons, eqs_cons, eqs_nil, eqs_cons, eqs_cons, eqs_nil, eqD_int, eqD_int, eqD_int, eqD_int]
  simp [Bool.and_assoc]
theorem w_lback {t : Int} (h : 0 ≤ t) (h2 : t < 8) (a b : Int) : m__law_back [T3 t a b] = .ok (T3 (ut t) (-(tkx (ut t) a b)) (-(tky (ut t) a b))) [] := by
  rcases eight h h2 with rfl | rfl | rfl | rfl | rfl | rfl | rfl | rfl <;> simp [m__law_back, b__law_back, rng1, small, DL.intsFrom, List.range, List.range.loop, w_lturned, tkx, tky, fx, ut, eq_pairs, Few]
/-! ### the pen -/
theorem w_move {k f : Int} {xs : List D} (h : Pen k xs) (hk : k ≤ 99990) (h1 : 1 ≤ f) (h2 : f ≤ 1000000000000) : ∃ t a b ys, m__law_move [.lst xs, .int f] = .ok (T3 t a b) [some (.lst ys)] ∧ Pen (k + 3) ys ∧ 0 ≤ t ∧ t < 8 ∧ Far a ∧ Far b := by
  obtain ⟨t, y1, e1, p1, a1, a2⟩ := h.draw (by omega) (m := 8) (by decide) (by decide)
  obtain ⟨a, y2, e2, p2, b1, b2⟩ := p1.draw (by omega) (m := 2 * f + 1) (by omega) (by omega)
  obtain ⟨b, y3, e3, p3, c1, c2⟩ := p2.draw (by omega) (m := 2 * f + 1) (by omega) (by omega)
  refine ⟨t, a - f, b - f, y3, ?_, by have e : k + 3 = k + 1 + 1 + 1 := by omega
                                      rw [e]; exact p3, a1, a2, ⟨by omega, by omega⟩, ⟨by omega, by omega⟩⟩
  have m1 : mulOk 2 f = true := mulOk_l (by decide)
  simp [m__law_move, b__law_move, e1, e2, e3, m1]
theorem tk_few {t x y B : Int} (hx : -B ≤ x ∧ x ≤ B) (hy : -B ≤ y ∧ y ≤ B) : (-B ≤ tkx t x y ∧ tkx t x y ≤ B) ∧ (-B ≤ tky t x y ∧ tky t x y ≤ B) := by
  unfold tkx tky fx
  constructor <;> (repeat' split) <;> omega
theorem inB_few {x : Int} (h : Few x) : inB (.int x) = true := decide_eq_true (by have := h.1; have := h.2; omega)
theorem okT2 {x y : Int} (hx : Few x) (hy : Few y) : okT (T2 x y) = true := by
  have a := inB_few hx; have b := inB_few hy
  unfold okT
  rw [show inB (T2 x y) = (inB (.int x) && (inB (.int y) && true)) from rfl, a, b]; rfl
theorem okL2 {x y z w : Int} (hx : Few x) (hy : Few y) (hz : Few z) (hw : Few w) : okT (.lst [T2 x y, T2 z w]) = true := by
  have a := inB_few hx; have b := inB_few hy; have c := inB_few hz; have d := inB_few hw
  unfold okT
  rw [show inB (.lst [T2 x y, T2 z w]) = ((inB (.int x) && (inB (.int y) && true)) && ((inB (.int z) && (inB (.int w) && true)) && true)) from rfl, a, b, c, d]; rfl
theorem okL3 {t x y u z w : Int} (ht : Few t) (hx : Few x) (hy : Few y) (hu : Few u) (hz : Few z) (hw : Few w) : okT (.lst [T3 t x y, T3 u z w]) = true := by
  have a := inB_few hx; have b := inB_few hy; have c := inB_few hz; have d := inB_few hw; have e := inB_few ht; have f := inB_few hu
  unfold okT
  rw [show inB (.lst [T3 t x y, T3 u z w]) = ((inB (.int t) && (inB (.int x) && (inB (.int y) && true))) && ((inB (.int u) && (inB (.int z) && (inB (.int w) && true))) && true)) from rfl, a, b, c, d, e, f]; rfl
theorem okLd {x y : Int} {b : Bool} (hx : Few x) (hy : Few y) : okT (.lst [.int x, .int y, .bl b]) = true := by
  have a := inB_few hx; have c := inB_few hy
  unfold okT
  rw [show inB (.lst [.int x, .int y, .bl b]) = (inB (.int x) && (inB (.int y) && (true && true))) from rfl, a, c]; rfl
theorem okI {x : Int} (hx : Few x) : okT (.int x) = true := by
  have a := inB_few hx
  unfold okT
  rw [a]; rfl
theorem okB {b : Bool} : okT (.bl b) = true := rfl
end Gk01
namespace Gk01
open PySem DL
/-! ### moves as a group -/
abbrev Mv := Int × Int × Int
def dM (m : Mv) : D := T3 m.1 m.2.1 m.2.2
def pr (m n : Mv) : Mv := (jt m.1 n.1, tkx m.1 n.2.1 n.2.2 + m.2.1, tky m.1 n.2.1 n.2.2 + m.2.2)
def iv (m : Mv) : Mv := (ut m.1, -(tkx (ut m.1) m.2.1 m.2.2), -(tky (ut m.1) m.2.1 m.2.2))
def st : Mv := (0, 0, 0)
def Ok (m : Mv) : Prop := 0 ≤ m.1 ∧ m.1 < 8
def Bd (B : Int) (m : Mv) : Prop := (-B ≤ m.2.1 ∧ m.2.1 ≤ B) ∧ (-B ≤ m.2.2 ∧ m.2.2 ≤ B)
theorem ok_st : Ok st := ⟨by decide, by decide⟩
theorem bd_st : Bd 0 st := ⟨⟨by decide, by decide⟩, by decide, by decide⟩
theorem Ok.pr {m n : Mv} (h : Ok m) (k : Ok n) : Ok (pr m n) := jt_lt h.1 h.2 k.1 k.2
theorem Ok.iv {m : Mv} (h : Ok m) : Ok (iv m) := ut_lt h.1 h.2
theorem Bd.mono {A B : Int} {m : Mv} (h : Bd A m) (l : A ≤ B) : Bd B m := by unfold Bd at *; omega
theorem Bd.pr {A B : Int} {m n : Mv} (h : Bd A m) (k : Bd B n) : Bd (A + B) (pr m n) := by
  have e := tk_few (t := m.1) k.1 k.2
  unfold Bd at *
  show (-(A + B) ≤ tkx m.1 n.2.1 n.2.2 + m.2.1 ∧ tkx m.1 n.2.1 n.2.2 + m.2.1 ≤ A + B) ∧ (-(A + B) ≤ tky m.1 n.2.1 n.2.2 + m.2.2 ∧ tky m.1 n.2.1 n.2.2 + m.2.2 ≤ A + B)
  omega
theorem Bd.iv {A : Int} {m : Mv} (h : Bd A m) : Bd A (iv m) := by
  have e := tk_few (t := ut m.1) h.1 h.2
  unfold Bd at *
  show (-A ≤ -(tkx (ut m.1) m.2.1 m.2.2) ∧ -(tkx (ut m.1) m.2.1 m.2.2) ≤ A) ∧ (-A ≤ -(tky (ut m.1) m.2.1 m.2.2) ∧ -(tky (ut m.1) m.2.1 m.2.2) ≤ A)
  omega
theorem jt_assoc : ∀ t u v : Fin 8, jt (jt (t : Nat) (u : Nat)) (v : Nat) = jt (t : Nat) (jt (u : Nat) (v : Nat)) := by decide +kernel
theorem jt_as {t u v : Int} (a : 0 ≤ t ∧ t < 8) (b : 0 ≤ u ∧ u < 8) (c : 0 ≤ v ∧ v < 8) : jt (jt t u) v = jt t (jt u v) := by
  have h := jt_assoc ⟨t.toNat, by omega⟩ ⟨u.toNat, by omega⟩ ⟨v.toNat, by omega⟩
  simp only at h
  rwa [show ((t.toNat : Nat) : Int) = t by omega, show ((u.toNat : Nat) : Int) = u by omega, show ((v.toNat : Nat) : Int) = v by omega] at h
theorem mv_ext {m n : Mv} (a : m.1 = n.1) (b : m.2.1 = n.2.1) (c : m.2.2 = n.2.2) : m = n := by
  obtain ⟨_, _, _⟩ := m; obtain ⟨_, _, _⟩ := n
  simp only at a b c
  subst a b c; rfl
theorem pr_assoc {a b c : Mv} (ha : Ok a) (hb : Ok b) (hc : Ok c) : pr (pr a b) c = pr a (pr b c) := by
  have e := tk_tk ha.1 ha.2 hb.1 hb.2 c.2.1 c.2.2
  have f := tk_add ha.1 ha.2 (tkx b.1 c.2.1 c.2.2) (tky b.1 c.2.1 c.2.2) b.2.1 b.2.2
  refine mv_ext (jt_as ha hb hc) ?_ ?_
  · show tkx (jt a.1 b.1) c.2.1 c.2.2 + (tkx a.1 b.2.1 b.2.2 + a.2.1) = tkx a.1 (tkx b.1 c.2.1 c.2.2 + b.2.1) (tky b.1 c.2.1 c.2.2 + b.2.2) + a.2.1
    omega
  · show tky (jt a.1 b.1) c.2.1 c.2.2 + (tky a.1 b.2.1 b.2.2 + a.2.2) = tky a.1 (tkx b.1 c.2.1 c.2.2 + b.2.1) (tky b.1 c.2.1 c.2.2 + b.2.2) + a.2.2
    omega
theorem jt_0 {t : Int} (h : 0 ≤ t ∧ t < 8) : jt t 0 = t ∧ jt 0 t = t ∧ jt t (ut t) = 0 ∧ jt (ut t) t = 0 := by
  rcases eight h.1 h.2 with rfl | rfl | rfl | rfl | rfl | rfl | rfl | rfl <;> decide
theorem tk_id (x y : Int) : tkx 0 x y = x ∧ tky 0 x y = y := by simp [tkx, tky, fx]
theorem pr_st {m : Mv} (h : Ok m) : pr m st = m := by
  have z := tk_0 h.1 h.2
  refine mv_ext (jt_0 h).1 ?_ ?_
  · show tkx m.1 0 0 + m.2.1 = m.2.1; omega
  · show tky m.1 0 0 + m.2.2 = m.2.2; omega
theorem st_pr {m : Mv} (h : Ok m) : pr st m = m := by
  have z := tk_id m.2.1 m.2.2
  refine mv_ext (jt_0 h).2.1 ?_ ?_
  · show tkx 0 m.2.1 m.2.2 + 0 = m.2.1; omega
  · show tky 0 m.2.1 m.2.2 + 0 = m.2.2; omega
theorem tk_ut2 {t : Int} (h : 0 ≤ t) (h2 : t < 8) (x y : Int) : tkx t (-(tkx (ut t) x y)) (-(tky (ut t) x y)) = -x ∧ tky t (-(tkx (ut t) x y)) (-(tky (ut t) x y)) = -y := by
  rcases eight h h2 with rfl | rfl | rfl | rfl | rfl | rfl | rfl | rfl <;> simp [tkx, tky, fx, ut]
theorem pr_iv {m : Mv} (h : Ok m) : pr m (iv m) = st := by
  have z := tk_ut2 h.1 h.2 m.2.1 m.2.2
  refine mv_ext (jt_0 h).2.2.1 ?_ ?_
  · show tkx m.1 (-(tkx (ut m.1) m.2.1 m.2.2)) (-(tky (ut m.1) m.2.1 m.2.2)) + m.2.1 = 0; omega
  · show tky m.1 (-(tkx (ut m.1) m.2.1 m.2.2)) (-(tky (ut m.1) m.2.1 m.2.2)) + m.2.2 = 0; omega
theorem iv_pr {m : Mv} (h : Ok m) : pr (iv m) m = st := by
  refine mv_ext (jt_0 h).2.2.2 ?_ ?_
  · show tkx (ut m.1) m.2.1 m.2.2 + -(tkx (ut m.1) m.2.1 m.2.2) = 0; omega
  · show tky (ut m.1) m.2.1 m.2.2 + -(tky (ut m.1) m.2.1 m.2.2) = 0; omega
theorem iv_two {a b : Mv} (ha : Ok a) (hb : Ok b) : iv (pr a b) = pr (iv b) (iv a) := by
  have h1 : pr (pr a b) (pr (iv b) (iv a)) = st := by
    rw [pr_assoc ha hb (hb.iv.pr ha.iv), ← pr_assoc hb hb.iv ha.iv, pr_iv hb, st_pr ha.iv, pr_iv ha]
  have h2 : pr (iv (pr a b)) (pr (pr a b) (pr (iv b) (iv a))) = pr (iv b) (iv a) := by
    rw [← pr_assoc (ha.pr hb).iv (ha.pr hb) (hb.iv.pr ha.iv), iv_pr (ha.pr hb), st_pr (hb.iv.pr ha.iv)]
  rw [h1, pr_st (ha.pr hb).iv] at h2
  exact h2
/-! ### so many times -/
def itm (m : Mv) : Nat → Mv
  | 0 => st
  | n + 1 => pr m (itm m n)
theorem Ok.itm {m : Mv} (h : Ok m) : ∀ n, Ok (itm m n)
  | 0 => ok_st
  | n + 1 => h.pr (Ok.itm h n)
theorem Bd.itm {A : Int} {m : Mv} (h : Bd A m) (h0 : 0 ≤ A) : ∀ n : Nat, Bd (n * A) (itm m n)
  | 0 => by
    rw [show ((0 : Nat) : Int) * A = 0 by simp]
    exact bd_st
  | n + 1 => by
    have e := h.pr (Bd.itm h h0 n)
    have : ((n + 1 : Nat) : Int) * A = A + n * A := by
      rw [Int.natCast_add, Int.add_mul]; omega
    rw [this]; exact e
theorem itm_sq {m : Mv} (h : Ok m) : ∀ n, itm (pr m m) n = itm m (2 * n)
  | 0 => rfl
  | n + 1 => by
    show pr (pr m m) (itm (pr m m) n) = pr m (pr m (itm m (2 * n)))
    rw [itm_sq h n, pr_assoc h h (h.itm _)]
theorem itm_comm {m : Mv} (h : Ok m) : ∀ n, pr (itm m n) m = pr m (itm m n)
  | 0 => by rw [show itm m 0 = st from rfl, st_pr h, pr_st h]
  | n + 1 => by
    show pr (pr m (itm m n)) m = pr m (pr m (itm m n))
    rw [pr_assoc h (h.itm n) h, itm_comm h n]
/-! ### the worth in moves -/
theorem d_st : D.tup [.int 0, .int 0, .int 0] = dM st := rfl
theorem ix_dM {m : Mv} : gIx (dM m) (.int 0) = some (.int m.1) := by unfold dM; rw [s_ixT, s_at0]
theorem v_product {m n : Mv} (h : Ok m) : m_product [dM m, dM n] = .ok (dM (pr m n)) [] := w_product h.1 h.2 _ _ _ _
theorem v_inverse {m : Mv} (h : Ok m) : m_inverse [dM m] = .ok (dM (iv m)) [] := w_inverse h.1 h.2 _ _
theorem Bd.far {A : Int} {m : Mv} (h : Bd A m) (l : A ≤ 1000000000000) : Far m.2.1 ∧ Far m.2.2 := by unfold Bd at h; constructor <;> constructor <;> omega
theorem v_after {A B : Int} {m n : Mv} (h : Ok m) (k : Ok n) (a : Bd A m) (b : Bd B n) (la : A ≤ 1000000000000) (lb : B ≤ 1000000000000) : m_after [dM m, dM n] = .ok (dM (pr m n)) [] :=
  w_after h.1 h.2 (a.far la).1 (a.far la).2 k.1 k.2 (b.far lb).1 (b.far lb).2
theorem v_back {A : Int} {m : Mv} (h : Ok m) (a : Bd A m) (la : A ≤ 1000000000000) : m_back [dM m] = .ok (dM (iv m)) [] := w_back h.1 h.2 (a.far la).1 (a.far la).2
theorem v_lafter {m n : Mv} (h : Ok m) (k : Ok n) : m__law_after [dM m, dM n] = .ok (dM (pr m n)) [] := w_lafter h.1 h.2 k.1 k.2
theorem v_lback {m : Mv} (h : Ok m) : m__law_back [dM m] = .ok (dM (iv m)) [] := w_lback h.1 h.2 _ _
theorem v_need {A : Int} {s : Str} {m : Mv} (h : Ok m) (a : Bd A m) (la : A ≤ 1000000000000) : m_need_move [.str s, dM m] = .ok .non [] := w_need_move h.1 h.2 (a.far la).1 (a.far la).2
theorem okT_dM {A : Int} {m : Mv} (h : Ok m) (a : Bd A m) (la : A ≤ 1000000000000000000000) : okT (dM m) = true := by
  unfold Bd at a
  have h1 : inB (.int m.1) = true := inB_few ⟨by have := h.1; omega, by have := h.2; omega⟩
  have h2 : inB (.int m.2.1) = true := inB_few ⟨by omega, by omega⟩
  have h3 : inB (.int m.2.2) = true := inB_few ⟨by omega, by omega⟩
  unfold okT
  rw [show inB (dM m) = (inB (.int m.1) && (inB (.int m.2.1) && (inB (.int m.2.2) && true))) from rfl, h1, h2, h3]; rfl
theorem okT_dM2 {A B : Int} {m n : Mv} (h : Ok m) (a : Bd A m) (la : A ≤ 1000000000000000000000) (h' : Ok n) (a' : Bd B n) (la' : B ≤ 1000000000000000000000) : okT (.lst [dM m, dM n]) = true := by
  have e1 := (okT.parts (okT_dM h a la)).1
  have e2 := (okT.parts (okT_dM h' a' la')).1
  unfold okT
  rw [show inB (.lst [dM m, dM n]) = (inB (dM m) && (inB (dM n) && true)) from rfl, e1, e2]; rfl
theorem v_ne {A : Int} {m : Mv} (h : Ok m) (a : Bd A m) (la : A ≤ 1000000000000000000000) : gNe (dM m) (dM m) = some (.bl false) := gNe_self (okT_dM h a la)
theorem v_eq {A B : Int} {m n : Mv} (h : Ok m) (a : Bd A m) (la : A ≤ 1000000000000000000000) (h' : Ok n) (a' : Bd B n) (la' : B ≤ 1000000000000000000000) : gEq (dM m) (dM n) = some (.bl (decide (m = n))) := by
  rw [gEq_ok (okT_dM h a la) (okT_dM h' a' la')]
  have : eqD (dM m) (dM n) = decide (m = n) := by
    unfold dM
    rw [eqD_tup, eqs_cons, eqs_cons, eqs_cons, eqs_nil, eqD_int, eqD_int, eqD_int]
    by_cases e : m = n
    · subst e; simp
    · rw [decide_eq_false e]
      by_cases a1 : m.1 = n.1 <;> by_cases a2 : m.2.1 = n.2.1 <;> by_cases a3 : m.2.2 = n.2.2 <;> simp [a1, a2, a3]
      exact e (mv_ext a1 a2 a3)
  rw [this]
theorem pow_loop (m0 : D) : ∀ (k : Nat) (n : Int) (f s : Mv), n.toNat = k → 0 ≤ n → n < 18446744073709551616 → Ok f → Ok s → ∃ s', whileM (truM (bin gGt (getV 1) (pureM (.int 0)))) l0_power [some m0, some (.int n), some (dM f), some (dM s)] = .ok .nx [some m0, some (.int 0), some (dM (pr (itm s k) f)), some s'] := by
  intro k
  induction k using Nat.strongRecOn with
  | ind k ih =>
    intro n f s hk h0 hlt hf hs
    rw [whileM_step]
    by_cases hn : 0 < n
    · have hstep : ∀ f', Ok f' → (∃ s', whileM (truM (bin gGt (getV 1) (pureM (.int 0)))) l0_power [some m0, some (.int (n / 2)), some (dM f'), some (dM (pr s s))] = .ok .nx [some m0, some (.int 0), some (dM (pr (itm (pr s s) (n / 2).toNat) f')), some s']) := fun f' hf' =>
        ih (n / 2).toNat (by omega) (n / 2) f' (pr s s) rfl (by omega) (by omega) hf' (hs.pr hs)
      have q0 : gPosDiv (.int n) (.int 2) = some (.int (n / 2)) := rfl
      by_cases ho : n % 2 = 1
      · obtain ⟨s', e⟩ := hstep (pr s f) (hs.pr hf)
        refine ⟨s', ?_⟩
        have : pr (itm s k) f = pr (itm (pr s s) (n / 2).toNat) (pr s f) := by
          rw [itm_sq hs, ← pr_assoc (hs.itm _) hs hf, itm_comm hs, show k = 2 * (n / 2).toNat + 1 by omega]; rfl
        rw [this, ← e]
        simp [hn, l0_power, Int.fmod_eq_emod_of_nonneg, ho, v_product hs, q0]
      · obtain ⟨s', e⟩ := hstep f hf
        refine ⟨s', ?_⟩
        have : pr (itm s k) f = pr (itm (pr s s) (n / 2).toNat) f := by
          rw [itm_sq hs, show k = 2 * (n / 2).toNat by omega]
        rw [this, ← e]
        simp [hn, l0_power, Int.fmod_eq_emod_of_nonneg, ho, v_product hs, q0]
    · have : n = 0 := by omega
      subst this
      have : k = 0 := by omega
      subst this
      refine ⟨dM s, ?_⟩
      rw [show itm s 0 = st from rfl, st_pr hf]
      simp
theorem v_power {m : Mv} (h : Ok m) {n : Int} (h0 : 0 ≤ n) (h1 : n < 18446744073709551616) : m_power [dM m, .int n] = .ok (dM (itm m n.toNat)) [] := by
  obtain ⟨s', e⟩ := pow_loop (dM m) n.toNat n st m rfl h0 h1 ok_st h
  rw [pr_st (h.itm _)] at e
  simp [m_power, b_power, d_st, e]
end Gk01
namespace Gk01
open PySem DL
theorem v_repeated {A : Int} {m : Mv} (h : Ok m) (a : Bd A m) (la : A ≤ 1000000000000) {n : Int} (h0 : 0 ≤ n) (h1 : n ≤ 1000) : m_repeated [dM m, .int n] = .ok (dM (itm m n.toNat)) [] := by
  simp [m_repeated, b_repeated, v_need h a la, w_between, h0, h1, v_power h h0 (show n < 18446744073709551616 by omega)]
theorem v_seen {A B : Int} {m n : Mv} (h : Ok m) (k : Ok n) (a : Bd A m) (b : Bd B n) (la : A ≤ 1000000000000) (lb : B ≤ 1000000000000) : m_seen_from [dM m, dM n] = .ok (dM (pr (pr m n) (iv m))) [] := by
  simp [m_seen_from, b_seen_from, v_need h a la, v_need k b lb, m_conjugate, b_conjugate, v_product h, v_product (h.pr k), v_inverse h]
def od (t : Int) : Int := if 3 < t ∨ t = 2 then 2 else if t = 0 then 1 else 4
theorem v_order (t : Int) : m_order_of [.int t] = .ok (.int (od t)) [] := by
  unfold od
  by_cases h : 3 < t <;> by_cases h2 : t = 2 <;> by_cases h3 : t = 0 <;> simp [m_order_of, b_order_of, h, h2, h3]
theorem od_le (t : Int) : 0 ≤ od t ∧ od t ≤ 4 := by unfold od; split <;> (try split) <;> omega
def tm (m : Mv) : D := if itm m (od m.1).toNat = st then .int (od m.1) else .non
theorem v_times {A : Int} {m : Mv} (h : Ok m) (a : Bd A m) (la : A ≤ 1000000000000) (l0 : 0 ≤ A) : m_times [dM m] = .ok (tm m) [] := by
  have o := od_le m.1
  have b := a.itm l0 (od m.1).toNat
  have b2 : Bd 4000000000000 (itm m (od m.1).toNat) := b.mono (by
    have : ((od m.1).toNat : Int) * A ≤ 4 * 1000000000000 := Int.mul_le_mul (by omega) la l0 (by decide)
    omega)
  unfold tm
  simp [m_times, b_times, v_need h a la, ix_dM, v_order, v_power h o.1 (show od m.1 < 18446744073709551616 by omega), d_st, v_eq (h.itm _) b2 (by decide) ok_st bd_st (by decide)]
  all_goals (by_cases e : itm m (od m.1).toNat = st <;> simp [e])
def kd (m : Mv) : Str := if m.1 = 0 then (if m = st then "still" else "shift") else if m.1 < 4 then (if m.1 = 2 then "half" else "quarter") else if pr m m = st then "mirror" else "glide"
theorem itm2 {m : Mv} (h : Ok m) : itm m 2 = pr m m := by
  show pr m (pr m st) = pr m m
  rw [pr_st h]
theorem v_kind {A : Int} {m : Mv} (h : Ok m) (a : Bd A m) (la : A ≤ 1000000000000) (l0 : 0 ≤ A) : m_kind_of [dM m] = .ok (.str (kd m)) [] := by
  have e0 := v_eq h a (by omega) ok_st bd_st (by decide)
  have e2 := v_eq (h.pr h) (a.pr a) (by omega) ok_st bd_st (by decide)
  have p := v_power h (n := 2) (by decide) (by decide)
  rw [show (2 : Int).toNat = 2 from rfl, itm2 h] at p
  unfold kd
  by_cases h0 : m.1 = 0
  · by_cases hm : m = st
    · have hd := decide_eq_true hm
      rw [if_pos h0, if_pos hm]
      simp [m_kind_of, b_kind_of, v_need h a la, ix_dM, h0, d_st, e0, hd]
    · have hd := decide_eq_false hm
      rw [if_pos h0, if_neg hm]
      simp [m_kind_of, b_kind_of, v_need h a la, ix_dM, h0, d_st, e0, hd]
  · by_cases h4 : m.1 < 4
    · by_cases h2 : m.1 = 2 <;> simp [m_kind_of, b_kind_of, v_need h a la, ix_dM, h0, h4, h2]
    · by_cases hp : pr m m = st
      · have hd := decide_eq_true hp
        rw [if_neg h0, if_neg h4, if_pos hp]
        simp [m_kind_of, b_kind_of, v_need h a la, ix_dM, h0, h4, d_st, p, e2, hd]
      · have hd := decide_eq_false hp
        rw [if_neg h0, if_neg h4, if_neg hp]
        simp [m_kind_of, b_kind_of, v_need h a la, ix_dM, h0, h4, d_st, p, e2, hd]
theorem half_iff {m : Mv} (h : Ok m) (h0 : m.1 ≠ 0) (h4 : m.1 < 4) : pr m m = st ↔ m.1 = 2 := by
  obtain ⟨t, a, b⟩ := m
  have h := h
  simp only at h0 h4
  have ht : t = 1 ∨ t = 2 ∨ t = 3 := by have := h.1; simp only at this; omega
  rcases ht with rfl | rfl | rfl <;> simp [pr, st, jt, tkx, tky, fx] <;> omega
theorem v_lkind {A : Int} {m : Mv} (h : Ok m) (a : Bd A m) (la : A ≤ 1000000000000) (l0 : 0 ≤ A) : m__law_kind_of [dM m] = .ok (.str (kd m)) [] := by
  have e0 := v_eq h a (by omega) ok_st bd_st (by decide)
  have e2 := v_eq (h.pr h) (a.pr a) (by omega) ok_st bd_st (by decide)
  unfold kd
  by_cases h0 : m.1 = 0
  · by_cases hm : m = st
    · have hd := decide_eq_true hm
      rw [if_pos h0, if_pos hm]
      simp [m__law_kind_of, b__law_kind_of, v_lafter h h, ix_dM, h0, d_st, e0, hd]
    · have hd := decide_eq_false hm
      rw [if_pos h0, if_neg hm]
      simp [m__law_kind_of, b__law_kind_of, v_lafter h h, ix_dM, h0, d_st, e0, hd]
  · by_cases h4 : m.1 < 4
    · have hh := half_iff h h0 h4
      have h3 : ¬ (3 < m.1) := by omega
      by_cases h2 : m.1 = 2
      · have hd := decide_eq_true (hh.mpr h2)
        simp [m__law_kind_of, b__law_kind_of, v_lafter h h, ix_dM, h0, h4, h2, h3, d_st, e2, hd]
      · have hd := decide_eq_false (show ¬ (pr m m = st) from fun z => h2 (hh.mp z))
        simp [m__law_kind_of, b__law_kind_of, v_lafter h h, ix_dM, h0, h4, h2, h3, d_st, e2, hd]
    · have h3 : 3 < m.1 := by omega
      by_cases hp : pr m m = st
      · have hd := decide_eq_true hp
        rw [if_neg h0, if_neg h4, if_pos hp]
        simp [m__law_kind_of, b__law_kind_of, v_lafter h h, ix_dM, h0, h4, h3, d_st, e2, hd]
      · have hd := decide_eq_false hp
        rw [if_neg h0, if_neg h4, if_neg hp]
        simp [m__law_kind_of, b__law_kind_of, v_lafter h h, ix_dM, h0, h4, h3, d_st, e2, hd]
def cn (m : Mv) : D := if m.1 = 2 then T2 m.2.1 m.2.2 else if m.1 = 1 then T2 (m.2.1 - m.2.2) (m.2.1 + m.2.2) else if m.1 = 3 then T2 (m.2.1 + m.2.2) (m.2.2 - m.2.1) else .non
theorem v_centre {A : Int} {m : Mv} (h : Ok m) (a : Bd A m) (la : A ≤ 1000000000000) : m_centre_of [dM m] = .ok (cn m) [] := by
  have n := v_need (s := "move") h a la
  obtain ⟨t, x, y⟩ := m
  unfold dM at n ⊢
  unfold cn
  simp only at n ⊢
  by_cases h2 : t = 2
  · subst h2
    simp [m_centre_of, b_centre_of, n]
  · by_cases h1 : t = 1
    · subst h1
      simp [m_centre_of, b_centre_of, n]
    · by_cases h3 : t = 3
      · subst h3
        simp [m_centre_of, b_centre_of, n]
      · simp [m_centre_of, b_centre_of, n, h2, h1, h3]
/-! ### the still points by own looks -/
def P (m : Mv) (x y : Int) : Bool := decide (tkx m.1 x y + 2 * m.2.1 = x ∧ tky m.1 x y + 2 * m.2.2 = y)
theorem okT_T2 {x y : Int} (hx : -10000 ≤ x ∧ x ≤ 10000) (hy : -10000 ≤ y ∧ y ≤ 10000) : okT (T2 x y) = true := okT2 ⟨by omega, by omega⟩ ⟨by omega, by omega⟩
theorem eq_T2 {x y z w : Int} (hx : -10000 ≤ x ∧ x ≤ 10000) (hy : -10000 ≤ y ∧ y ≤ 10000) (hz : -10000 ≤ z ∧ z ≤ 10000) (hw : -10000 ≤ w ∧ w ≤ 10000) : gEq (T2 x y) (T2 z w) = some (.bl (decide (x = z ∧ y = w))) := by
  rw [gEq_ok (okT_T2 hx hy) (okT_T2 hz hw), eqD_tup, eqs_cons, eqs_cons, eqs_nil, eqD_int, eqD_int]
  simp
theorem look (m : Mv) (h : Ok m) (a : Bd 2 m) (xs : List D) (hxs : xs.length < 10000) (s x y : Int) (f : Option D) (hx : -100 ≤ x ∧ x ≤ 100) (hy : -100 ≤ y ∧ y ≤ 100) :
    ∃ f', l0__law_still_points [some (dM m), some (.lst xs), some (.int s), some (.int x), some (.int y), f] = .ok .nx [some (dM m), some (.lst (xs ++ if P m x y = true then [T2 x y] else [])), some (.int s), some (.int x), some (.int y), f'] := by
  obtain ⟨t, b, c⟩ := m
  unfold Bd at a
  simp only at a
  have bt := tk_few (t := t) hx hy
  have e := eq_T2 (x := tkx t x y + 2 * b) (y := tky t x y + 2 * c) (z := x) (w := y) (by omega) (by omega) (by omega) (by omega)
  have m2 : ∀ z, mulOk 2 z = true := fun z => mulOk_l (by decide)
  have ha : xs.length < 16777216 := by omega
  refine ⟨some (T2 (tkx t x y) (tky t x y)), ?_⟩
  unfold dM P
  by_cases hp : tkx t x y + 2 * b = x ∧ tky t x y + 2 * c = y
  · have hd := decide_eq_true hp
    simp [l0__law_still_points, w_lturned h.1 h.2, m2, e, hd, appO, ha, -Bool.decide_and]
  · have hd := decide_eq_false hp
    simp [l0__law_still_points, w_lturned h.1 h.2, m2, e, hd, -Bool.decide_and]
theorem inner (m : Mv) (h : Ok m) (a : Bd 2 m) (s x : Int) (hx : -100 ≤ x ∧ x ≤ 100) : ∀ (ys : List Int) (xs : List D) (y0 f0 : Option D), xs.length + ys.length < 10000 → (∀ y ∈ ys, -100 ≤ y ∧ y ≤ 100) →
    ∃ y' f', DL.forM (gSet 4) l0__law_still_points (ys.map D.int) [some (dM m), some (.lst xs), some (.int s), some (.int x), y0, f0] = .ok .nx [some (dM m), some (.lst (xs ++ (ys.filter (P m x)).map (T2 x))), some (.int s), some (.int x), y', f']
  | [], xs, y0, f0, _, _ => ⟨y0, f0, by simp⟩
  | y :: ys, xs, y0, f0, hl, hy => by
    simp only [List.length_cons] at hl
    obtain ⟨f', e⟩ := look m h a xs (by omega) s x y f0 hx (hy y (List.mem_cons_self))
    obtain ⟨y'', f'', e2⟩ := inner m h a s x hx ys (xs ++ if P m x y = true then [T2 x y] else []) (some (.int y)) f' (by
      rw [List.length_append]; split <;> simp <;> omega) fun z hz => hy z (List.mem_cons_of_mem _ hz)
    refine ⟨y'', f'', ?_⟩
    rw [List.map_cons, s_forC]
    simp only [s_gset, List.set_cons_succ, List.set_cons_zero]
    rw [e]
    simp only
    rw [e2]
    by_cases hp : P m x y = true <;> simp [hp]
theorem outer (m : Mv) (h : Ok m) (a : Bd 2 m) (s : Int) (hs : 0 ≤ s ∧ s ≤ 6) : ∀ (zs : List Int) (xs : List D) (x0 y0 f0 : Option D), xs.length + zs.length * 20 < 9000 → (∀ x ∈ zs, -100 ≤ x ∧ x ≤ 100) →
    ∃ x' y' f', DL.forM (gSet 3) l1__law_still_points (zs.map D.int) [some (dM m), some (.lst xs), some (.int s), x0, y0, f0] = .ok .nx [some (dM m), some (.lst (xs ++ zs.flatMap fun x => ((intsI (-s) (2 * s + 1).toNat).filter (P m x)).map (T2 x))), some (.int s), x', y', f']
  | [], xs, x0, y0, f0, _, _ => ⟨x0, y0, f0, by simp⟩
  | x :: zs, xs, x0, y0, f0, hl, hx => by
    simp only [List.length_cons] at hl
    have hm : ∀ y ∈ intsI (-s) (2 * s + 1).toNat, -100 ≤ y ∧ y ≤ 100 := fun y hy => by rw [mem_intsI] at hy; omega
    obtain ⟨y', f', e⟩ := inner m h a s x (hx x (List.mem_cons_self)) (intsI (-s) (2 * s + 1).toNat) xs y0 f0 (by rw [intsI_len]; omega) hm
    have hlen : (((intsI (-s) (2 * s + 1).toNat).filter (P m x)).map (T2 x)).length ≤ 13 := by
      rw [List.length_map]
      have := List.length_filter_le (P m x) (intsI (-s) (2 * s + 1).toNat)
      rw [intsI_len] at this
      omega
    obtain ⟨x'', y'', f'', e2⟩ := outer m h a s hs zs (xs ++ ((intsI (-s) (2 * s + 1).toNat).filter (P m x)).map (T2 x)) (some (.int x)) y' f' (by
      rw [List.length_append]; omega) fun z hz => hx z (List.mem_cons_of_mem _ hz)
    refine ⟨x'', y'', f'', ?_⟩
    have r := rng2_ok (a := -s) (b := s + 1) (by omega) (by omega)
    rw [show (s + 1 - -s).toNat = (2 * s + 1).toNat by omega] at r
    rw [List.map_cons, s_forC]
    simp only [s_gset, List.set_cons_succ, List.set_cons_zero]
    have e0 : l1__law_still_points [some (dM m), some (.lst xs), some (.int s), some (.int x), y0, f0] = DL.forM (gSet 4) l0__law_still_points ((intsI (-s) (2 * s + 1).toNat).map D.int) [some (dM m), some (.lst xs), some (.int s), some (.int x), y0, f0] := by
      unfold l1__law_still_points
      simp [r]
    rw [e0, e]
    simp only
    rw [e2, List.flatMap_cons, List.append_assoc]
def zsOf (s : Int) : List Int := intsI (-s) (2 * s + 1).toNat
def found (m : Mv) (s : Int) : List (Int × Int) := (zsOf s).flatMap fun x => ((zsOf s).filter (P m x)).map fun y => (x, y)
def ab (x : Int) : Int := if x < 0 then -x else x
def cnP (m : Mv) : Int × Int := if m.1 = 2 then (m.2.1, m.2.2) else if m.1 = 1 then (m.2.1 - m.2.2, m.2.1 + m.2.2) else (m.2.1 + m.2.2, m.2.2 - m.2.1)
theorem all_found : ∀ t : Fin 3, ∀ a b : Fin 5, found (((t : Nat) : Int) + 1, ((a : Nat) : Int) - 2, ((b : Nat) : Int) - 2) (ab (((a : Nat) : Int) - 2) + ab (((b : Nat) : Int) - 2) + 2) = [cnP (((t : Nat) : Int) + 1, ((a : Nat) : Int) - 2, ((b : Nat) : Int) - 2)] := by decide +kernel
theorem found_one {m : Mv} (h : m.1 = 1 ∨ m.1 = 2 ∨ m.1 = 3) (a : Bd 2 m) : found m (ab m.2.1 + ab m.2.2 + 2) = [cnP m] := by
  obtain ⟨t, x, y⟩ := m
  unfold Bd at a
  simp only at h a ⊢
  have e := all_found ⟨(t - 1).toNat, by omega⟩ ⟨(x + 2).toNat, by omega⟩ ⟨(y + 2).toNat, by omega⟩
  simp only at e
  rwa [show (((t - 1).toNat : Nat) : Int) + 1 = t by omega, show (((x + 2).toNat : Nat) : Int) - 2 = x by omega, show (((y + 2).toNat : Nat) : Int) - 2 = y by omega] at e
theorem v_points {m : Mv} (h : Ok m) (a : Bd 2 m) (ht : m.1 = 1 ∨ m.1 = 2 ∨ m.1 = 3) : m__law_still_points [dM m] = .ok (.lst [cn m]) [] := by
  have a0 := a
  unfold Bd at a0
  have hs : 0 ≤ ab m.2.1 + ab m.2.2 + 2 ∧ ab m.2.1 + ab m.2.2 + 2 ≤ 6 := by unfold ab; split <;> split <;> omega
  obtain ⟨x', y', f', e⟩ := outer m h a _ hs (zsOf (ab m.2.1 + ab m.2.2 + 2)) [] none none none (by unfold zsOf; rw [intsI_len]; simp; omega) fun x hx => by
    unfold zsOf at hx
    rw [mem_intsI] at hx; omega
  have hf : ((zsOf (ab m.2.1 + ab m.2.2 + 2)).flatMap fun x => ((intsI (-(ab m.2.1 + ab m.2.2 + 2)) (2 * (ab m.2.1 + ab m.2.2 + 2) + 1).toNat).filter (P m x)).map (T2 x)) = (found m (ab m.2.1 + ab m.2.2 + 2)).map fun p => T2 p.1 p.2 := by
    unfold found zsOf
    rw [List.map_flatMap]
    congr 1
    funext x
    rw [List.map_map]
    rfl
  rw [List.nil_append, hf, found_one ht a] at e
  have r := rng2_ok (a := -(ab m.2.1 + ab m.2.2 + 2)) (b := ab m.2.1 + ab m.2.2 + 2 + 1) (by omega) (by omega)
  rw [show (ab m.2.1 + ab m.2.2 + 2 + 1 - -(ab m.2.1 + ab m.2.2 + 2)).toNat = (2 * (ab m.2.1 + ab m.2.2 + 2) + 1).toNat by omega] at r
  have c : cn m = T2 (cnP m).1 (cnP m).2 := by
    unfold cn cnP
    rcases ht with h1 | h1 | h1 <;> simp [h1]
  rw [c]
  generalize hq : ab m.2.1 + ab m.2.2 + 2 = s at *
  have i1 : gIx (dM m) (.int 1) = some (.int m.2.1) := by unfold dM; rw [s_ixT, s_at1]
  have i2 : gIx (dM m) (.int 2) = some (.int m.2.2) := by unfold dM; rw [s_ixT, s_at2]
  unfold ab at hq
  unfold zsOf at e
  simp [m__law_still_points, b__law_still_points, i1, i2, hq, r, e]
end Gk01
namespace Gk01
open PySem DL
theorem v_move {k : Int} {f : Int} {xs : List D} (h : Pen k xs) (hk : k ≤ 99990) (h1 : 1 ≤ f) (h2 : f ≤ 1000000000000) : ∃ m ys, m__law_move [.lst xs, .int f] = .ok (dM m) [some (.lst ys)] ∧ Pen (k + 3) ys ∧ Ok m ∧ Bd f m := by
  obtain ⟨t, y1, e1, p1, a1, a2⟩ := h.draw (by omega) (m := 8) (by decide) (by decide)
  obtain ⟨a, y2, e2, p2, b1, b2⟩ := p1.draw (by omega) (m := 2 * f + 1) (by omega) (by omega)
  obtain ⟨b, y3, e3, p3, c1, c2⟩ := p2.draw (by omega) (m := 2 * f + 1) (by omega) (by omega)
  have m1 : mulOk 2 f = true := mulOk_l (by decide)
  refine ⟨(t, a - f, b - f), y3, ?_, by
    have e : k + 3 = k + 1 + 1 + 1 := by omega
    rw [e]; exact p3, ⟨a1, a2⟩, ⟨by simp only; omega, by simp only; omega⟩⟩
  simp [m__law_move, b__law_move, e1, e2, e3, m1]
  rfl
theorem v_pick {k : Int} {xs : List D} (h : Pen k xs) (hk : k ≤ 99990) {a b c : Int} (ha : 0 ≤ a ∧ a ≤ 1000) (hb : 0 ≤ b ∧ b ≤ 1000) (hc : 0 ≤ c ∧ c ≤ 1000) : ∃ n ys, m__law_pick [.lst xs, .lst [.int a, .int b, .int c]] = .ok (.int n) [some (.lst ys)] ∧ Pen (k + 1) ys ∧ 0 ≤ n ∧ n ≤ 1000 := by
  obtain ⟨v, ys, e, p, h1, h2⟩ := h.draw (by omega) (m := 3) (by decide) (by decide)
  have hv : v = 0 ∨ v = 1 ∨ v = 2 := by omega
  rcases hv with rfl | rfl | rfl
  · exact ⟨a, ys, by simp [m__law_pick, b__law_pick, e], p, ha⟩
  · exact ⟨b, ys, by simp [m__law_pick, b__law_pick, e], p, hb⟩
  · exact ⟨c, ys, by simp [m__law_pick, b__law_pick, e], p, hc⟩
theorem steps {m : Mv} (h : Ok m) (s p0 d2 y4 y5 y6 y7 y9 y10 y11 y12 : Option D) (p1 : Option D) : ∀ (ds : List D) (f : Mv) (y9 : Option D), Ok f → ∃ y9', DL.forM (gSet 9) l0_law ds [s, p0, d2, some (dM m), y4, y5, y6, y7, some (dM f), y9, y10, y11, y12] = .ok .nx [s, p0, d2, some (dM m), y4, y5, y6, y7, some (dM (Nat.rec f (fun _ g => pr m g) ds.length)), y9', y10, y11, y12]
  | [], f, y9, _ => ⟨y9, rfl⟩
  | d :: ds, f, y9, hf => by
    obtain ⟨y', e⟩ := steps h s p0 d2 y4 y5 y6 y7 y9 y10 y11 y12 p1 ds (pr m f) (some d) (h.pr hf)
    refine ⟨y', ?_⟩
    rw [s_forC]
    simp only [s_gset, List.set_cons_succ, List.set_cons_zero]
    have e0 : l0_law [s, p0, d2, some (dM m), y4, y5, y6, y7, some (dM f), some d, y10, y11, y12] = .ok .nx [s, p0, d2, some (dM m), y4, y5, y6, y7, some (dM (pr m f)), some d, y10, y11, y12] := by
      simp [l0_law, v_lafter h hf]
    rw [e0]
    simp only
    rw [e]
    have : ∀ n : Nat, (Nat.rec (pr m f) (fun _ g => pr m g) n : Mv) = Nat.rec f (fun _ g => pr m g) (n + 1) := by
      intro n
      induction n with
      | zero => rfl
      | succ n ih => show pr m _ = pr m _; rw [ih]
    rw [this]; rfl
theorem rec_itm (m : Mv) : ∀ n : Nat, (Nat.rec st (fun _ g => pr m g) n : Mv) = itm m n
  | 0 => rfl
  | n + 1 => by show pr m _ = pr m _; rw [rec_itm m n]
/-- the first of the steps 1 to 4 that is STILL -/
def firstOf (m : Mv) : List D := ([1, 2, 3, 4].filter fun k : Int => decide (itm m k.toNat = st)).map D.int
def headOr (ds : List D) : D := match ds with | [] => .non | d :: _ => d
theorem all_first : ∀ t : Fin 8, ∀ a b : Fin 5, (([1, 2, 3, 4] : List Int).filter fun k : Int => decide (itm (((t : Nat) : Int), ((a : Nat) : Int) - 2, ((b : Nat) : Int) - 2) k.toNat = st)).head? = if itm (((t : Nat) : Int), ((a : Nat) : Int) - 2, ((b : Nat) : Int) - 2) (od ((t : Nat) : Int)).toNat = st then some (od ((t : Nat) : Int)) else none := by decide +kernel
theorem first_tm {m : Mv} (h : Ok m) (a : Bd 2 m) : headOr (firstOf m) = tm m := by
  obtain ⟨t, x, y⟩ := m
  unfold Bd at a
  have h := h
  unfold Ok at h
  simp only at h a
  have e := all_first ⟨t.toNat, by omega⟩ ⟨(x + 2).toNat, by omega⟩ ⟨(y + 2).toNat, by omega⟩
  simp only at e
  rw [show ((t.toNat : Nat) : Int) = t by omega, show (((x + 2).toNat : Nat) : Int) - 2 = x by omega, show (((y + 2).toNat : Nat) : Int) - 2 = y by omega] at e
  unfold firstOf tm
  simp only
  generalize List.filter _ _ = l at e ⊢
  cases l with
  | nil =>
    rw [List.head?_nil] at e
    split at e
    · cases e
    · rename_i hn; rw [if_neg hn]; rfl
  | cons z l =>
    rw [List.head?_cons] at e
    split at e
    · rename_i hn; rw [if_pos hn]; cases e; rfl
    · cases e
end Gk01
namespace Gk01
open PySem DL
theorem v_some {m : Mv} (h : Ok m) (a : Bd 2 m) (y0 y1 y2 y3 y4 y5 y6 y7 y8 y11 y12 : Option D) :
    ∃ z, lcL [9] (gSet 9) (truM (bin gEq (callM 2 [] m_repeated (consM (getV 10) (consM (getV 9) (nilM)))) (pureM (.tup [.int 0, .int 0, .int 0])))) (getV 9) ([1, 2, 3, 4].map D.int) [y0, y1, y2, y3, y4, y5, y6, y7, y8, none, some (dM m), y11, y12] = .ok (firstOf m) [y0, y1, y2, y3, y4, y5, y6, y7, y8, z, some (dM m), y11, y12] := by
  obtain ⟨ρ', e, z, rfl⟩ := lc_inv (vs := [9]) (t := gSet 9) (tt := truM (bin gEq (callM 2 [] m_repeated (consM (getV 10) (consM (getV 9) (nilM)))) (pureM (.tup [.int 0, .int 0, .int 0])))) (te := getV 9)
    (fun ρ => ∃ z, ρ = [y0, y1, y2, y3, y4, y5, y6, y7, y8, z, some (dM m), y11, y12]) (fun d => match d with | .int k => if itm m k.toNat = st then some (.int k) else none | _ => none) (ds := ([1, 2, 3, 4] : List Int).map D.int) (ρ := [y0, y1, y2, y3, y4, y5, y6, y7, y8, none, some (dM m), y11, y12]) ⟨none, rfl⟩ (by
      rintro d hd ρ ⟨z, rfl⟩
      obtain ⟨k, hk, rfl⟩ := List.mem_map.mp hd
      have hk2 : 0 ≤ k ∧ k ≤ 4 := by simp at hk; omega
      have r := v_repeated h a (by decide) hk2.1 (show k ≤ 1000 by omega)
      have b : Bd 8 (itm m k.toNat) := (a.itm (by decide) k.toNat).mono (by omega)
      have q := v_eq (h.itm k.toNat) b (by decide) ok_st bd_st (by decide)
      refine ⟨_, [y0, y1, y2, y3, y4, y5, y6, y7, y8, some (.int k), some (dM m), y11, y12], decide (itm m k.toNat = st), rfl, ?_, ?_⟩
      · simp [d_st, r, q]
      · by_cases e : itm m k.toNat = st
        · exact .inr ⟨decide_eq_true e, .int k, _, rfl, if_pos e, none, rfl⟩
        · exact .inl ⟨decide_eq_false e, if_neg e, none, rfl⟩)
  refine ⟨z, ?_⟩
  rw [e]
  congr 1
  unfold firstOf
  have key : ∀ l : List Int, (l.map D.int).filterMap (fun d => match d with | .int k => if itm m k.toNat = st then some (.int k) else none | _ => none) = (l.filter fun k : Int => decide (itm m k.toNat = st)).map D.int := by
    intro l
    induction l with
    | nil => rfl
    | cons k l ih =>
      rw [List.map_cons, List.filterMap_cons, List.filter_cons]
      by_cases e : itm m k.toNat = st <;> simp [e, ih]
  exact key [1, 2, 3, 4]
theorem ne_kd (m : Mv) : gNe (.str (kd m)) (.str (kd m)) = some (.bl false) := by
  have key : ∀ s : Str, okD (.str s) = true → gNe (.str s) (.str s) = some (.bl false) := fun s hs => by
    unfold gNe
    rw [hs, eqD_self hs]; rfl
  refine key _ ?_
  unfold kd
  split
  · split <;> exact okD_str _
  · split
    · split <;> exact okD_str _
    · split <;> exact okD_str _
theorem in123 (t : Int) : gIn (.int t) (.tup [.int 1, .int 2, .int 3]) = some (.bl (decide (t = 1 ∨ t = 2 ∨ t = 3))) := by
  show (if (flatE (.int t) && flatDs [.int 1, .int 2, .int 3]) = true then some (D.bl (hasD (.int t) [.int 1, .int 2, .int 3])) else none) = _
  rw [if_pos (show (flatE (.int t) && flatDs [.int 1, .int 2, .int 3]) = true from rfl)]
  unfold hasD
  simp only [List.any_cons, List.any_nil, eqD_int, Bool.or_false, Bool.decide_or]
  congr 3
  · exact decide_eq_decide.mpr ⟨fun h => h.symm, fun h => h.symm⟩
  · congr 1
    · exact decide_eq_decide.mpr ⟨fun h => h.symm, fun h => h.symm⟩
    · exact decide_eq_decide.mpr ⟨fun h => h.symm, fun h => h.symm⟩
theorem gMul2 (x : D) : gMul (.lst [x]) (.int 2) = some (.lst [x, x]) := by rfl
theorem ok_cn {m : Mv} (a : Bd 2 m) : okT (cn m) = true ∧ okT (.lst [cn m]) = true := by
  unfold Bd at a
  have key : ∀ {x y : Int}, (-100 ≤ x ∧ x ≤ 100) → (-100 ≤ y ∧ y ≤ 100) → okT (T2 x y) = true ∧ okT (.lst [T2 x y]) = true := fun {x y} hx hy => by
    have e : okT (T2 x y) = true := okT2 ⟨by omega, by omega⟩ ⟨by omega, by omega⟩
    refine ⟨e, ?_⟩
    have e2 := (okT.parts e).1
    unfold okT
    rw [show inB (.lst [T2 x y]) = (inB (T2 x y) && true) from rfl, e2]; rfl
  unfold cn
  split
  · exact key (by omega) (by omega)
  · split
    · exact key (by omega) (by omega)
    · split
      · exact key (by omega) (by omega)
      · exact ⟨rfl, rfl⟩
theorem ok_tm (m : Mv) : okT (.lst [tm m, tm m]) = true := by
  unfold tm
  split
  · have := od_le m.1
    have e2 : inB (.int (od m.1)) = true := inB_few ⟨by omega, by omega⟩
    unfold okT
    rw [show inB (.lst [.int (od m.1), .int (od m.1)]) = (inB (.int (od m.1)) && (inB (.int (od m.1)) && true)) from rfl, e2]; rfl
  · rfl
theorem first_cases {m : Mv} (h : Ok m) (a : Bd 2 m) : (firstOf m = [] ∧ tm m = .non) ∨ ∃ z ds, firstOf m = tm m :: ds ∧ tm m = .int z := by
  have e := first_tm h a
  unfold firstOf at e ⊢
  generalize List.filter _ _ = l at e ⊢
  cases l with
  | nil => exact .inl ⟨rfl, e.symm⟩
  | cons z l => exact .inr ⟨z, _, by rw [← e]; rfl, e.symm⟩
theorem ne_first (m : Mv) : gNe (.lst (firstOf m)) (.lst []) = some (.bl (!(firstOf m).isEmpty)) := by
  unfold firstOf
  rw [ne_nil]
  cases List.filter _ _ <;> rfl
def Inv (s : D) (i : Nat) (ρ : Rho) : Prop := ∃ xs y2 y3 y4 y5 y6 y7 y8 y9 y10 y11 y12, ρ = [some s, some (.lst xs), y2, y3, y4, y5, y6, y7, y8, y9, y10, y11, y12] ∧ Pen (16 * i) xs
theorem lap (s d : D) (i : Nat) (hi : i < 6) (ρ : Rho) (h : Inv s i ρ) : ∃ ρ1 ρ2, gSet 2 d ρ = some ρ1 ∧ l1_law ρ1 = .ok .nx ρ2 ∧ Inv s (i + 1) ρ2 := by
  obtain ⟨xs, y2, y3, y4, y5, y6, y7, y8, y9, y10, y11, y12, rfl, p⟩ := h
  obtain ⟨a, z1, e1, p1, oa, ba⟩ := v_move p (by omega) (f := 50) (by decide) (by decide)
  obtain ⟨b, z2, e2, p2, ob, bb⟩ := v_move p1 (by omega) (f := 50) (by decide) (by decide)
  obtain ⟨c, z3, e3, p3, oc, bc⟩ := v_move p2 (by omega) (f := 50) (by decide) (by decide)
  obtain ⟨n1, z4, e4, p4, a1, b1⟩ := p3.draw (by omega) (m := 9) (by decide) (by decide)
  obtain ⟨n2, z5, e5, p5, a2, b2⟩ := p4.draw (by omega) (m := 9) (by decide) (by decide)
  obtain ⟨n3, z6, e6, p6, a3, b3⟩ := p5.draw (by omega) (m := 900) (by decide) (by decide)
  obtain ⟨n, z7, e7, p7, a4, b4⟩ := v_pick p6 (by omega) (a := n1) (b := n2) (c := 1000 - n3) ⟨by omega, by omega⟩ ⟨by omega, by omega⟩ ⟨by omega, by omega⟩
  obtain ⟨m, z8, e8, p8, om, bm⟩ := v_move p7 (by omega) (f := 2) (by decide) (by decide)
  have t1 := v_after oa ob ba bb (by decide) (by decide)
  have t2 := v_after (oa.pr ob) oc (ba.pr bb) bc (by decide) (by decide)
  have t3 := v_after ob oc bb bc (by decide) (by decide)
  have t4 := v_after oa (ob.pr oc) ba (bb.pr bc) (by decide) (by decide)
  have t5 := v_after oa ok_st ba bd_st (by decide) (by decide)
  have t6 := v_after ok_st oa bd_st ba (by decide) (by decide)
  have t7 := v_after oa oa.iv ba ba.iv (by decide) (by decide)
  have t8 := v_after oa.iv oa ba.iv ba (by decide) (by decide)
  have t9 := v_after ob.iv oa.iv bb.iv ba.iv (by decide) (by decide)
  rw [pr_assoc oa ob oc] at t2
  rw [pr_st oa] at t5
  rw [st_pr oa] at t6
  rw [pr_iv oa] at t7
  rw [iv_pr oa] at t8
  have u1 := v_back oa ba (by decide)
  have u2 := v_back ob bb (by decide)
  have u3 := v_back (oa.pr ob) (ba.pr bb) (by decide)
  rw [iv_two oa ob] at u3
  have w1 := v_ne (oa.pr (ob.pr oc)) (ba.pr (bb.pr bc)) (by decide)
  have w2 := v_ne oa ba (by decide)
  have w3 := v_ne ok_st bd_st (by decide)
  have w4 := v_ne (ob.iv.pr oa.iv) (bb.iv.pr ba.iv) (by decide)
  have l1 := v_lafter oa ob
  have l2 := v_lback oa
  have l3 := v_lafter (oa.pr ob) oa.iv
  have s1 := v_seen oa ob ba bb (by decide) (by decide)
  have r1 := gRepr_ok (okT_dM2 ((oa.pr ob).pr oa.iv) ((ba.pr bb).pr ba.iv) (by decide) ((oa.pr ob).pr oa.iv) ((ba.pr bb).pr ba.iv) (by decide))
  have r1' := gNe_rp (okT_dM2 ((oa.pr ob).pr oa.iv) ((ba.pr bb).pr ba.iv) (by decide) ((oa.pr ob).pr oa.iv) ((ba.pr bb).pr ba.iv) (by decide))
  have rp1 := v_repeated oa ba (by decide) a4 b4
  have bi : Bd 50000 (itm a n.toNat) := (ba.itm (by decide) n.toNat).mono (by omega)
  have r2 := gRepr_ok (okT_dM2 (oa.itm n.toNat) bi (by decide) (oa.itm n.toNat) bi (by decide))
  have r2' := gNe_rp (okT_dM2 (oa.itm n.toNat) bi (by decide) (oa.itm n.toNat) bi (by decide))
  have g1 := rng1_ok (n := n) ⟨by omega, by omega⟩
  obtain ⟨y', st1⟩ := steps oa (some s) (some (.lst z7)) (some d) (some (dM b)) (some (dM c)) (some (dM (pr (pr a b) (iv a)))) (some (.int n)) y9 y10 y11 y12 none ((intsI 0 n.toNat).map D.int) st y9 ok_st
  rw [List.length_map, intsI_len, rec_itm] at st1
  have g2 : rng2 [.int 1, .int 5] = some ([1, 2, 3, 4].map D.int) := rfl
  obtain ⟨zz, so⟩ := v_some om bm (some s) (some (.lst z8)) (some d) (some (dM a)) (some (dM b)) (some (dM c)) (some (dM (pr (pr a b) (iv a)))) (some (.int n)) (some (dM (itm a n.toNat))) y11 y12
  have tm1 := v_times om bm (by decide) (by decide)
  have r3 := gRepr_ok (ok_tm m)
  have r3' := gNe_rp (ok_tm m)
  have k1 := v_kind om bm (by decide) (by decide)
  have k2 := v_kind oa ba (by decide) (by decide)
  have k3 := v_lkind om bm (by decide) (by decide)
  have k4 := v_lkind oa ba (by decide) (by decide)
  have c1 := v_centre om bm (by decide)
  have r4 := gRepr_ok (ok_cn bm).2
  have r4' := gNe_rp (ok_cn bm).2
  have r5 := gNe_self (ok_cn bm).1
  have nf := ne_first m
  refine ⟨_, [some s, some (.lst z8), some d, some (dM a), some (dM b), some (dM c), some (dM (pr (pr a b) (iv a))), some (.int n), some (dM (itm a n.toNat)), y', some (dM m), some (.lst (firstOf m)), some (.lst [cn m])], rfl, ?_, z8, _, _, _, _, _, _, _, _, _, _, _, rfl, by
    have e : 16 * ((i + 1 : Nat) : Int) = 16 * (i : Int) + 3 + 3 + 3 + 1 + 1 + 1 + 1 + 3 := by omega
    rw [e]; exact p8⟩
  have g2 : rng2 [.int 1, .int 5] = some [.int 1, .int 2, .int 3, .int 4] := rfl
  have so : lcL [9] (gSet 9) (truM (bin gEq (callM 2 [] m_repeated (consM (getV 10) (consM (getV 9) (nilM)))) (pureM (dM st)))) (getV 9) [.int 1, .int 2, .int 3, .int 4] [some s, some (.lst z8), some d, some (dM a), some (dM b), some (dM c), some (dM (pr (pr a b) (iv a))), some (.int n), some (dM (itm a n.toNat)), none, some (dM m), y11, y12] = _ := so
  by_cases ht : m.1 = 1 ∨ m.1 = 2 ∨ m.1 = 3
  · have hin := in123 m.1
    rw [decide_eq_true ht] at hin
    have hp := v_points om bm ht
    rcases first_cases om bm with ⟨f1, f2⟩ | ⟨z, ds, f1, f2⟩
    · rw [f1] at nf so ⊢
      rw [f2] at tm1 r3 r3'
      simp [l1_law, e1, e2, e3, e4, e5, e6, e7, e8, d_st, t1, t2, t3, t4, t5, t6, t7, t8, t9, u1, u2, u3, w1, w2, w3, w4, l1, l2, l3, s1, r1, r1', rp1, r2, r2', g1, st1, g2, so, tm1, r3, r3', k1, k2, k3, k4, c1, r4, r4', r5, nf, ne_kd, gMul2, ix_dM, hin, hp, -s_lc1, -s_lc0]
    · rw [f1] at nf so ⊢
      rw [f2] at tm1 r3 r3' nf so ⊢
      simp [l1_law, e1, e2, e3, e4, e5, e6, e7, e8, d_st, t1, t2, t3, t4, t5, t6, t7, t8, t9, u1, u2, u3, w1, w2, w3, w4, l1, l2, l3, s1, r1, r1', rp1, r2, r2', g1, st1, g2, so, tm1, r3, r3', k1, k2, k3, k4, c1, r4, r4', r5, nf, ne_kd, gMul2, ix_dM, hin, hp, -s_lc1, -s_lc0]
  · have hin := in123 m.1
    rw [decide_eq_false ht] at hin
    have hc : cn m = .non := by unfold cn; rw [if_neg (by omega), if_neg (by omega), if_neg (by omega)]
    rw [hc] at c1 r4 r4' r5 ⊢
    rcases first_cases om bm with ⟨f1, f2⟩ | ⟨z, ds, f1, f2⟩
    · rw [f1] at nf so ⊢
      rw [f2] at tm1 r3 r3'
      simp [l1_law, e1, e2, e3, e4, e5, e6, e7, e8, d_st, t1, t2, t3, t4, t5, t6, t7, t8, t9, u1, u2, u3, w1, w2, w3, w4, l1, l2, l3, s1, r1, r1', rp1, r2, r2', g1, st1, g2, so, tm1, r3, r3', k1, k2, k3, k4, c1, r4, r4', r5, nf, ne_kd, gMul2, ix_dM, hin, -s_lc1, -s_lc0]
    · rw [f1] at nf so ⊢
      rw [f2] at tm1 r3 r3' nf so ⊢
      simp [l1_law, e1, e2, e3, e4, e5, e6, e7, e8, d_st, t1, t2, t3, t4, t5, t6, t7, t8, t9, u1, u2, u3, w1, w2, w3, w4, l1, l2, l3, s1, r1, r1', rp1, r2, r2', g1, st1, g2, so, tm1, r3, r3', k1, k2, k3, k4, c1, r4, r4', r5, nf, ne_kd, gMul2, ix_dM, hin, -s_lc1, -s_lc0]
theorem law_worth (ns : List Int) (h : ns.length ≤ 63) : ∃ ρ, m_law [.scr (ns.map D.int)] = .ok (.bl true) ρ := by
  obtain ⟨xs0, e0, p0⟩ := pen0 ns h
  have hd : rng1 [.int 6] = some (DL.intsFrom 0 6) := rfl
  obtain ⟨ρ', e, xs, y2, y3, y4, y5, y6, y7, y8, y9, y10, y11, y12, rfl, _⟩ := forM_inv (t := gSet 2) (b := l1_law) (Inv (.scr (ns.map D.int))) (ds := DL.intsFrom 0 6) (k := 0) (ρ := [some (.scr (ns.map D.int)), some (.lst xs0), none, none, none, none, none, none, none, none, none, none, none])
    ⟨xs0, _, _, _, _, _, _, _, _, _, _, _, rfl, p0⟩ (fun i d ρ hi _ h3 _ => lap _ d i (by rw [DL.intsFrom_len] at h3; omega) ρ hi)
  have f1 := v_kind ok_st bd_st (by decide) (by decide)
  have f2 := v_times ok_st bd_st (by decide) (by decide)
  have f3 := v_centre ok_st bd_st (by decide)
  rw [show tm st = .int 1 by unfold tm; rw [if_pos (by decide +kernel)]; rfl] at f2
  rw [show cn st = .non from rfl] at f3
  rw [show kd st = "still" from rfl] at f1
  have g1 : gEq (.str "still") (.str "still") = some (.bl true) := by
    unfold gEq
    rw [okD_str, eqD_self (okD_str _)]; rfl
  simp [m_law, b_law, e0, hd, e, d_st, f1, f2, f3, g1, gIsN, isNon]
end Gk01
open PySem PySem.W PySem.Calls PyProof.Rows
theorem PySem.Challenge.cw_everyseam_k01_whole_moves_are_a_group_holds : PySem.Challenge.rw_everyseam_k01_whole_moves_are_a_group.Holds := by
  w_on; o_law
  refine HandSHeadRun.head_any (r := OpenLaw.row PySem.Challenge.rw_everyseam_k01_whole_moves_are_a_group) (q := view (OpenLaw.row PySem.Challenge.rw_everyseam_k01_whole_moves_are_a_group).prog [41]) (H := Gk01.hk) (ob := Gk01.ob) (M := 2000) (loose := Gk01.loose) (d := HandSHeadRun.topDef (OpenLaw.row PySem.Challenge.rw_everyseam_k01_whole_moves_are_a_group).prog 41) (kwd := []) Gk01.ob_eq
    (by kernel_rfl) (fun s => by kernel_rfl) Gk01.run (by kernel_rfl) (by kernel_rfl) (by kernel_rfl) (by rfl) (by first | assumption | decide +kernel) (by decide +kernel) ⟨rfl, rfl, rfl, rfl, rfl, by decide +kernel⟩ ?hw ?hc
  case hw => w_witness2
  case hc =>
    refine DL.walk_lawE (l := PySem.Challenge.rw_everyseam_k01_whole_moves_are_a_group) (n := 63) (k := 6) (x := "script") (f := Gk01.m_law) rfl (by decide) (by kernel_rfl) ⟨rfl, by decide, by decide⟩ ?F Gk01.law_worth
    intro w mg fa h Y G hmg0
    obtain ⟨K, KX, c⟩ := Y
    have hmg : mg ("law" : PySem.Str) = some (.ref fa) := by
      have e : (HandSHeadRun.topDef (OpenLaw.row PySem.Challenge.rw_everyseam_k01_whole_moves_are_a_group).prog 41).name = ("law" : PySem.Str) := by kernel_rfl
      rw [← e]
      exact hmg0
    obtain ⟨fd, hb, hF⟩ := Gk01.facts (P := (PySem.Challenge.rw_everyseam_k01_whole_moves_are_a_group).prog) (w := w) KX G hmg c
    exact ⟨K, fd, KX, hb, hF⟩
