import PyProof.Rows.All
import Wide.All
import OpenK.AllK
import Wide.FinOn
import HandS.ForMost
import HandS.ForExc
import HandS.HeadHook4
import HandS.Lambda
import HandS.Deep
import HandS.TupAny
import HandS.IsInst
import HandS.ExcInit
import HandS.HeadHook2
import KE.KExcSuper
import KE.KSuper
import KE.KStateDown
import HandS.Base
import HandS.Call
import HandS.Ends
import HandS.More
import HandS.Words
import HandS.WordsExc
import HandS.Defaults
import HandS.Head0
import HandS.Head1
import HandS.Head2
import HandS.HeadEnd
import HandS.HeadHook1
import HandS.Style
import HandS.Wide
import HandS.WideMore
import HandS.Dict
import HandS.TupLen
import HandS.WordsDict
import HandS.Text
import HandS.Iter
import HandS.SortInts
import HandS.Star
import HandS.Strs
import HandS.SetFor
import HandS.OwnEq
import HandS.TupLe
import PyProof.InstEq
import KE.SortData
import KE.DataMinMax
import HandS.Walk
import PyProof.ReprLen
import PyProof.P3Eq
import HandS.Codes
import HandS.ExcValue
import KE.KDflt
import KE.KExcIs
import HandS.ExcField
import HandS.NestedK
import HandS.DictComp
import Lean
import PySem.Challenge.RW_everyseam_k15_whole_shifts_in_two_lattic
set_option Elab.async false
set_option linter.all false
set_option maxRecDepth 100000
set_option maxHeartbeats 0
/-! DL: values as data; what a def is worth as a function of data. -/
namespace DL
open PySem PySem.Spec PyProof.Rows L2
abbrev Fg := PySem.W.Frag
/-- data: what a value reads as -/
inductive D where
  | non | bl (b : Bool) | int (i : Int) | str (x : Str) | ty (n : String) | fn (a : Addr) (F0 : L2.Hp)
  | tup (xs : List D) | ktup (xs : List D) | ntup (xs : List D) | lst (xs : List D) | scr (xs : List D)
  | dK (kvs : List (Key × D)) | dT (kvs : List (List Key × D)) | dZ (kvs : List (List Key × D))
  | ins (C : Str) (fs : List (Str × D)) | exn (C : Str) (fs : List (Str × D))
  deriving Inhabited
/-- H' holds all that H holds -/
def Le (H H' : Hp) : Prop := ∀ a o, H a = some o → H' a = some o
theorem Le.refl (H : Hp) : Le H H := fun _ _ h => h
theorem Le.trans {H H1 H2 : Hp} (a : Le H H1) (b : Le H1 H2) : Le H H2 := fun x o h => b x o (a x o h)
theorem Le.upd {H : Hp} {p : Addr} {o : HO} (h : H p = none) : Le H (upd H p o) := fun a u e => by
  rw [upd_ne (ne_of_none e h)]; exact e
theorem Le.both {F H : Hp} {p : Addr} {o : HO} (h : Le F H) : Le (L2.upd F p o) (L2.upd H p o) := fun a u e => by
  by_cases q : a = p
  · subst q; rw [upd_same] at e ⊢; exact e
  · rw [upd_ne q] at e ⊢; exact h a u e
theorem Le.none {F H : Hp} {p : Addr} (h : Le F H) (e : H p = none) : F p = none := by
  cases q : F p with
  | none => rfl
  | some o => rw [h p o q] at e; cases e
theorem Rd.mono {F F' : Hp} {a : Addr} {u : HO} (l : Le F F') (h : Rd F a u) : Rd F' a u := h.elim (fun z => .inl (l _ _ z)) fun ⟨o, z⟩ => .inr ⟨o, l _ _ z⟩
theorem SqL.mono {K : Fg} {F F' : Hp} {a : Addr} {xs : List V} (l : Le F F') (h : SqL K F a xs) : SqL K F' a xs := h.elim (fun z => .inl (Rd.mono l z)) .inr
theorem SqT.mono {K : Fg} {F F' : Hp} {a : Addr} {xs : List V} (l : Le F F') (h : SqT K F a xs) : SqT K F' a xs := h.elim (fun z => .inl (Rd.mono l z)) .inr
/-- an exception of the class cls, caught, its dict at d -/
def ExH (a : Addr) (cls : Value) (d : Option Addr) : HO := .ext fun h => ∃ (oe : Obj) (vs : Array Value), h.get? a = some oe ∧ Zc cls d oe ∧ oe.data = .fields vs
mutual
/-- the value reads as the data, in the frozen heap F -/
inductive RD (K : Fg) (F : Hp) : V → D → Prop
  | non : RD K F .non .non
  | bl (b : Bool) : RD K F (.bl b) (.bl b)
  | int (i : Int) : RD K F (.int i) (.int i)
  | str (x : Str) : RD K F (.str x) (.str x)
  | ty (n : String) : RD K F (.ty n) (.ty n)
  | fn {a : Addr} {F0 : Hp} : Le F0 F → RD K F (.ref a) (.fn a F0)
  | tup {a : Addr} {xs : List V} {ds : List D} : F a = some (.tup xs) → RDs K F xs ds → RD K F (.ref a) (.tup ds)
  | ktup {a : Addr} {xs : List V} {ds : List D} : SqT K F a xs → RDs K F xs ds → RD K F (.ref a) (.ktup ds)
  | ntup {a : Addr} {o : Obj} {xs : List V} {ds : List D} : F a = some (.frz o (.tup xs)) → o.dict = none → RDs K F xs ds → RD K F (.ref a) (.ntup ds)
  | lst {a : Addr} {xs : List V} {ds : List D} : F a = some (.lst xs) → RDs K F xs ds → RD K F (.ref a) (.lst ds)
  | scr {a : Addr} {xs : List V} {ds : List D} : SqL K F a xs → RDs K F xs ds → RD K F (.ref a) (.scr ds)
  | dK {a : Addr} {kvs : List (Key × V)} {ds : List (Key × D)} : F a = some (.dK kvs) → kvs.map (·.1) = ds.map (·.1) → RDs K F (kvs.map (·.2)) (ds.map (·.2)) → RD K F (.ref a) (.dK ds)
  | dT {a : Addr} {kvs : List (List Key × V)} {ds : List (List Key × D)} : F a = some (.dT kvs) → kvs.map (·.1) = ds.map (·.1) → RDs K F (kvs.map (·.2)) (ds.map (·.2)) → RD K F (.ref a) (.dT ds)
  | dZ {a : Addr} {o : Obj} {kvs : List (List Key × V)} {ds : List (List Key × D)} : F a = some (.frz o (.dT kvs)) → kvs.map (·.1) = ds.map (·.1) → RDs K F (kvs.map (·.2)) (ds.map (·.2)) → RD K F (.ref a) (.dZ ds)
  | ins {a dx : Addr} {C : Str} {fs : List (Str × V)} {ds : List (Str × D)} : F a = some (.ins (He.ga K C) dx fs) → F dx = some (.own a) → fs.map (·.1) = ds.map (·.1) → RDs K F (fs.map (·.2)) (ds.map (·.2)) → RD K F (.ref a) (.ins C ds)
  | exn {a dx : Addr} {C : Str} {fs : List (Str × V)} {ds : List (Str × D)} : F a = some (ExH a (.ref (He.ga K C)) (some dx)) → F dx = some (.xd fs) → fs.map (·.1) = ds.map (·.1) → RDs K F (fs.map (·.2)) (ds.map (·.2)) → RD K F (.ref a) (.exn C ds)
  | exn0 {a : Addr} {C : Str} : F a = some (ExH a (.ref (He.ga K C)) none) → RD K F (.ref a) (.exn C [])
inductive RDs (K : Fg) (F : Hp) : List V → List D → Prop
  | nil : RDs K F [] []
  | cons {v : V} {d : D} {vs : List V} {ds : List D} : RD K F v d → RDs K F vs ds → RDs K F (v :: vs) (d :: ds)
end
mutual
theorem RD.mono {K : Fg} {F F' : Hp} (l : Le F F') : ∀ {v : V} {d : D}, RD K F v d → RD K F' v d
  | _, _, .non => .non
  | _, _, .bl b => .bl b
  | _, _, .int b => .int b
  | _, _, .str b => .str b
  | _, _, .ty b => .ty b
  | _, _, .fn h => .fn (h.trans l)
  | _, _, .tup h r => .tup (l _ _ h) (RDs.mono l r)
  | _, _, .ktup h r => .ktup (SqT.mono l h) (RDs.mono l r)
  | _, _, .ntup h e r => .ntup (l _ _ h) e (RDs.mono l r)
  | _, _, .lst h r => .lst (l _ _ h) (RDs.mono l r)
  | _, _, .scr h r => .scr (SqL.mono l h) (RDs.mono l r)
  | _, _, .dK h e r => .dK (l _ _ h) e (RDs.mono l r)
  | _, _, .dT h e r => .dT (l _ _ h) e (RDs.mono l r)
  | _, _, .dZ h e r => .dZ (l _ _ h) e (RDs.mono l r)
  | _, _, .ins h h2 e r => .ins (l _ _ h) (l _ _ h2) e (RDs.mono l r)
  | _, _, .exn h h2 e r => .exn (l _ _ h) (l _ _ h2) e (RDs.mono l r)
  | _, _, .exn0 h => .exn0 (l _ _ h)
theorem RDs.mono {K : Fg} {F F' : Hp} (l : Le F F') : ∀ {vs : List V} {ds : List D}, RDs K F vs ds → RDs K F' vs ds
  | _, _, .nil => .nil
  | _, _, .cons a b => .cons (RD.mono l a) (RDs.mono l b)
end
theorem RDs.length {K : Fg} {F : Hp} : ∀ {vs : List V} {ds : List D}, RDs K F vs ds → vs.length = ds.length
  | _, _, .nil => rfl
  | _, _, .cons _ b => congrArg (· + 1) (RDs.length b)
theorem RDs.append {K : Fg} {F : Hp} : ∀ {vs ws : List V} {ds es : List D}, RDs K F vs ds → RDs K F ws es → RDs K F (vs ++ ws) (ds ++ es)
  | _, _, _, _, .nil, h => h
  | _, _, _, _, .cons a b, h => .cons a (RDs.append b h)
theorem RDs.get {K : Fg} {F : Hp} : ∀ {vs : List V} {ds : List D} {i : Nat} {d : D}, RDs K F vs ds → ds[i]? = some d → ∃ v, vs[i]? = some v ∧ RD K F v d
  | _, _, _, _, .nil, h => by simp at h
  | _, _, 0, _, .cons a b, h => ⟨_, rfl, by simp at h; subst h; exact a⟩
  | _, _, i + 1, _, .cons a b, h => by
    obtain ⟨v, e, r⟩ := RDs.get (i := i) b (by simpa using h)
    exact ⟨v, by simpa using e, r⟩
theorem RDs.getV {K : Fg} {F : Hp} : ∀ {vs : List V} {ds : List D} {i : Nat} {v : V}, RDs K F vs ds → vs[i]? = some v → ∃ d, ds[i]? = some d ∧ RD K F v d
  | _, _, _, _, .nil, h => by simp at h
  | _, _, 0, _, .cons a b, h => ⟨_, rfl, by simp at h; subst h; exact a⟩
  | _, _, i + 1, _, .cons a b, h => by
    obtain ⟨v, e, r⟩ := RDs.getV (i := i) b (by simpa using h)
    exact ⟨v, by simpa using e, r⟩
theorem RDs.take {K : Fg} {F : Hp} : ∀ {vs : List V} {ds : List D} (n : Nat), RDs K F vs ds → RDs K F (vs.take n) (ds.take n)
  | _, _, 0, _ => by simp; exact .nil
  | _, _, _ + 1, .nil => by simp; exact .nil
  | _, _, n + 1, .cons a b => .cons a (RDs.take n b)
theorem RDs.drop {K : Fg} {F : Hp} : ∀ {vs : List V} {ds : List D} (n : Nat), RDs K F vs ds → RDs K F (vs.drop n) (ds.drop n)
  | _, _, 0, h => by simpa using h
  | _, _, _ + 1, .nil => by simp; exact .nil
  | _, _, n + 1, .cons a b => by simpa using RDs.drop n b
theorem RDs.set {K : Fg} {F : Hp} {v : V} {d : D} (r : RD K F v d) : ∀ {vs : List V} {ds : List D} (i : Nat), RDs K F vs ds → RDs K F (vs.set i v) (ds.set i d)
  | _, _, _, .nil => .nil
  | _, _, 0, .cons a b => .cons r b
  | _, _, i + 1, .cons a b => .cons a (RDs.set r i b)
theorem RDs.rev {K : Fg} {F : Hp} : ∀ {vs : List V} {ds : List D}, RDs K F vs ds → RDs K F vs.reverse ds.reverse
  | _, _, .nil => .nil
  | _, _, .cons a b => by
    rw [List.reverse_cons, List.reverse_cons]
    exact (RDs.rev b).append (.cons a .nil)
/-! ### plain data -/
mutual
def toP : D → PyData
  | .non => .none
  | .bl b => .bool b
  | .int i => .int i
  | .str x => .str x
  | .tup xs => .tuple (toPs xs)
  | .ktup xs => .tuple (toPs xs)
  | .ntup xs => .tuple (toPs xs)
  | .lst xs => .list (toPs xs)
  | _ => .none
def toPs : List D → List PyData
  | [] => []
  | x :: xs => toP x :: toPs xs
end
mutual
/-- None, bools, ints, texts, tuples and lists of these -/
def plainD : D → Bool
  | .non => true
  | .bl _ => true
  | .int _ => true
  | .str _ => true
  | .tup xs => plainDs xs
  | .ktup xs => plainDs xs
  | .ntup xs => plainDs xs
  | .lst xs => plainDs xs
  | _ => false
def plainDs : List D → Bool
  | [] => true
  | x :: xs => plainD x && plainDs xs
end
mutual
theorem RD.dp {K : Fg} {F : Hp} : ∀ {v : V} {d : D}, RD K F v d → plainD d = true → Dp K F v (toP d)
  | _, _, .non, _ => .non
  | _, _, .bl b, _ => .bl b
  | _, _, .int b, _ => .int b
  | _, _, .str b, _ => .str b
  | _, _, .ty b, h => by cases h
  | _, _, .fn b, h => by cases h
  | _, _, .tup h r, q => .tup (SqT.of h) (RDs.dp r q)
  | _, _, .ktup h r, q => .tup h (RDs.dp r q)
  | _, _, .ntup h e r, q => .tup (.inl (.inr ⟨_, h⟩)) (RDs.dp r q)
  | _, _, .lst h r, q => .lst (SqL.of h) (RDs.dp r q)
  | _, _, .scr h r, q => by cases q
  | _, _, .dK h e r, q => by cases q
  | _, _, .dT h e r, q => by cases q
  | _, _, .dZ h e r, q => by cases q
  | _, _, .ins h h2 e r, q => by cases q
  | _, _, .exn h h2 e r, q => by cases q
  | _, _, .exn0 h, q => by cases q
theorem RDs.dp {K : Fg} {F : Hp} : ∀ {vs : List V} {ds : List D}, RDs K F vs ds → plainDs ds = true → DpAll K F vs (toPs ds)
  | _, _, .nil, _ => .nil
  | _, _, .cons a b, h => by
    have h' : (plainD _ && plainDs _) = true := h
    rw [Bool.and_eq_true] at h'
    exact .cons (RD.dp a h'.1) (RDs.dp b h'.2)
end
/-! ### what is owned: reached by one name alone, so it may change -/
inductive Sh where
  | fz | lst (e : Sh) | dct (e : Sh) | ins (fs : List (Str × Sh)) | pin (a : Addr) (s : Sh)

mutual
inductive Own (K : Fg) (F H : Hp) : Sh → V → D → List Addr → Prop
  | fz {v : V} {d : D} : RD K F v d → Own K F H .fz v d []
  | pin {s : Sh} {a : Addr} {d : D} {fp : List Addr} : Own K F H s (.ref a) d fp → Own K F H (.pin a s) (.ref a) d fp
  | lst {e : Sh} {a : Addr} {xs : List V} {ds : List D} {fp : List Addr} : H a = some (.lst xs) → Owns K F H e xs ds fp → a ∉ fp → Own K F H (.lst e) (.ref a) (.lst ds) (a :: fp)
  | dK {e : Sh} {a : Addr} {kvs : List (Key × V)} {ds : List (Key × D)} {fp : List Addr} : H a = some (.dK kvs) → kvs.map (·.1) = ds.map (·.1) → Owns K F H e (kvs.map (·.2)) (ds.map (·.2)) fp → a ∉ fp → Own K F H (.dct e) (.ref a) (.dK ds) (a :: fp)
  | dT {e : Sh} {a : Addr} {kvs : List (List Key × V)} {ds : List (List Key × D)} {fp : List Addr} : H a = some (.dT kvs) → kvs.map (·.1) = ds.map (·.1) → Owns K F H e (kvs.map (·.2)) (ds.map (·.2)) fp → a ∉ fp → Own K F H (.dct e) (.ref a) (.dT ds) (a :: fp)
  | ins {shs : List (Str × Sh)} {a dx : Addr} {C : Str} {fs : List (Str × V)} {ds : List (Str × D)} {fp : List Addr} : H a = some (.ins (He.ga K C) dx fs) → H dx = some (.own a) → OwnF K F H shs fs ds fp → a ∉ fp → dx ∉ fp → Own K F H (.ins shs) (.ref a) (.ins C ds) (a :: dx :: fp)
inductive Owns (K : Fg) (F H : Hp) : Sh → List V → List D → List Addr → Prop
  | nil {e : Sh} : Owns K F H e [] [] []
  | cons {e : Sh} {v : V} {d : D} {vs : List V} {ds : List D} {fp fp2 : List Addr} : Own K F H e v d fp → Owns K F H e vs ds fp2 → (∀ a ∈ fp, a ∉ fp2) → Owns K F H e (v :: vs) (d :: ds) (fp ++ fp2)
inductive OwnF (K : Fg) (F H : Hp) : List (Str × Sh) → List (Str × V) → List (Str × D) → List Addr → Prop
  | nil {shs : List (Str × Sh)} : OwnF K F H shs [] [] []
  | cons {shs : List (Str × Sh)} {f : Str} {v : V} {d : D} {vs : List (Str × V)} {ds : List (Str × D)} {fp fp2 : List Addr} : Own K F H ((shs.lookup f).getD .fz) v d fp → OwnF K F H shs vs ds fp2 → (∀ a ∈ fp, a ∉ fp2) → OwnF K F H shs ((f, v) :: vs) ((f, d) :: ds) (fp ++ fp2)
end
mutual
theorem Own.mono {K : Fg} {F F' H H' : Hp} (l : Le F F') : ∀ {sh : Sh} {v : V} {d : D} {fp : List Addr}, Own K F H sh v d fp → (∀ a ∈ fp, ∀ o, H a = some o → H' a = some o) → Own K F' H' sh v d fp
  | _, _, _, _, .fz r, _ => .fz (r.mono l)
  | _, _, _, _, .pin r, k => .pin (Own.mono l r k)
  | _, _, _, _, .lst h r n, k => .lst (k _ (List.mem_cons_self) _ h) (Owns.mono l r fun a m => k a (List.mem_cons_of_mem _ m)) n
  | _, _, _, _, .dK h e r n, k => .dK (k _ (List.mem_cons_self) _ h) e (Owns.mono l r fun a m => k a (List.mem_cons_of_mem _ m)) n
  | _, _, _, _, .dT h e r n, k => .dT (k _ (List.mem_cons_self) _ h) e (Owns.mono l r fun a m => k a (List.mem_cons_of_mem _ m)) n
  | _, _, _, _, .ins h h2 r n n2, k => .ins (k _ (List.mem_cons_self) _ h) (k _ (List.mem_cons_of_mem _ (List.mem_cons_self)) _ h2) (OwnF.mono l r fun a m => k a (List.mem_cons_of_mem _ (List.mem_cons_of_mem _ m))) n n2
theorem Owns.mono {K : Fg} {F F' H H' : Hp} (l : Le F F') : ∀ {sh : Sh} {v : List V} {d : List D} {fp : List Addr}, Owns K F H sh v d fp → (∀ a ∈ fp, ∀ o, H a = some o → H' a = some o) → Owns K F' H' sh v d fp
  | _, _, _, _, .nil, _ => .nil
  | _, _, _, _, .cons a b n, k => .cons (Own.mono l a fun x m => k x (List.mem_append_left _ m)) (Owns.mono l b fun x m => k x (List.mem_append_right _ m)) n
theorem OwnF.mono {K : Fg} {F F' H H' : Hp} (l : Le F F') : ∀ {sh : List (Str × Sh)} {v : List (Str × V)} {d : List (Str × D)} {fp : List Addr}, OwnF K F H sh v d fp → (∀ a ∈ fp, ∀ o, H a = some o → H' a = some o) → OwnF K F' H' sh v d fp
  | _, _, _, _, .nil, _ => .nil
  | _, _, _, _, .cons a b n, k => .cons (Own.mono l a fun x m => k x (List.mem_append_left _ m)) (OwnF.mono l b fun x m => k x (List.mem_append_right _ m)) n
end
mutual
theorem Own.live {K : Fg} {F H : Hp} : ∀ {sh : Sh} {v : V} {d : D} {fp : List Addr}, Own K F H sh v d fp → ∀ a ∈ fp, ∃ o, H a = some o
  | _, _, _, _, .fz r, _, m => by cases m
  | _, _, _, _, .pin r, a, m => Own.live r a m
  | _, _, _, _, .lst h r n, a, m => (List.mem_cons.mp m).elim (fun e => ⟨_, e ▸ h⟩) fun m => Owns.live r a m
  | _, _, _, _, .dK h e r n, a, m => (List.mem_cons.mp m).elim (fun e => ⟨_, e ▸ h⟩) fun m => Owns.live r a m
  | _, _, _, _, .dT h e r n, a, m => (List.mem_cons.mp m).elim (fun e => ⟨_, e ▸ h⟩) fun m => Owns.live r a m
  | _, _, _, _, .ins h h2 r n n2, a, m => (List.mem_cons.mp m).elim (fun e => ⟨_, e ▸ h⟩) fun m => (List.mem_cons.mp m).elim (fun e => ⟨_, e ▸ h2⟩) fun m => OwnF.live r a m
theorem Owns.live {K : Fg} {F H : Hp} : ∀ {sh : Sh} {v : List V} {d : List D} {fp : List Addr}, Owns K F H sh v d fp → ∀ a ∈ fp, ∃ o, H a = some o
  | _, _, _, _, .nil, _, m => by cases m
  | _, _, _, _, .cons x y n, a, m => (List.mem_append.mp m).elim (fun m => Own.live x a m) fun m => Owns.live y a m
theorem OwnF.live {K : Fg} {F H : Hp} : ∀ {sh : List (Str × Sh)} {v : List (Str × V)} {d : List (Str × D)} {fp : List Addr}, OwnF K F H sh v d fp → ∀ a ∈ fp, ∃ o, H a = some o
  | _, _, _, _, .nil, _, m => by cases m
  | _, _, _, _, .cons x y n, a, m => (List.mem_append.mp m).elim (fun m => Own.live x a m) fun m => OwnF.live y a m
end
/-- F and what stands at fp -/
def withH (F H : Hp) (fp : List Addr) : Hp := fun a => if a ∈ fp then H a else F a
theorem withH_in {F H : Hp} {fp : List Addr} {a : Addr} (h : a ∈ fp) : withH F H fp a = H a := by unfold withH; rw [if_pos h]
theorem withH_out {F H : Hp} {fp : List Addr} {a : Addr} (h : a ∉ fp) : withH F H fp a = F a := by unfold withH; rw [if_neg h]
theorem withH_le {F H : Hp} {fp : List Addr} (n : ∀ a ∈ fp, F a = none) : Le F (withH F H fp) := fun a o e => by
  by_cases m : a ∈ fp
  · rw [n a m] at e; cases e
  · rw [withH_out m]; exact e
theorem withH_sub {F H : Hp} {fp : List Addr} (l : Le F H) : Le (withH F H fp) H := fun a o e => by
  by_cases m : a ∈ fp
  · rw [withH_in m] at e; exact e
  · rw [withH_out m] at e; exact l a o e
mutual
theorem Own.rd {K : Fg} {F F' H : Hp} (l : Le F F') : ∀ {sh : Sh} {v : V} {d : D} {fp : List Addr}, Own K F H sh v d fp → (∀ a ∈ fp, ∀ o, H a = some o → F' a = some o) → RD K F' v d
  | _, _, _, _, .fz r, _ => r.mono l
  | _, _, _, _, .pin r, k => Own.rd l r k
  | _, _, _, _, .lst h r n, k => .lst (k _ (List.mem_cons_self) _ h) (Owns.rd l r fun a m => k a (List.mem_cons_of_mem _ m))
  | _, _, _, _, .dK h e r n, k => .dK (k _ (List.mem_cons_self) _ h) e (Owns.rd l r fun a m => k a (List.mem_cons_of_mem _ m))
  | _, _, _, _, .dT h e r n, k => .dT (k _ (List.mem_cons_self) _ h) e (Owns.rd l r fun a m => k a (List.mem_cons_of_mem _ m))
  | _, _, _, _, .ins h h2 r n n2, k => by
    obtain ⟨e, q⟩ := OwnF.rd l r fun a m => k a (List.mem_cons_of_mem _ (List.mem_cons_of_mem _ m))
    exact .ins (k _ (List.mem_cons_self) _ h) (k _ (List.mem_cons_of_mem _ (List.mem_cons_self)) _ h2) e q
theorem Owns.rd {K : Fg} {F F' H : Hp} (l : Le F F') : ∀ {sh : Sh} {v : List V} {d : List D} {fp : List Addr}, Owns K F H sh v d fp → (∀ a ∈ fp, ∀ o, H a = some o → F' a = some o) → RDs K F' v d
  | _, _, _, _, .nil, _ => .nil
  | _, _, _, _, .cons a b n, k => .cons (Own.rd l a fun x m => k x (List.mem_append_left _ m)) (Owns.rd l b fun x m => k x (List.mem_append_right _ m))
theorem OwnF.rd {K : Fg} {F F' H : Hp} (l : Le F F') : ∀ {sh : List (Str × Sh)} {v : List (Str × V)} {d : List (Str × D)} {fp : List Addr}, OwnF K F H sh v d fp → (∀ a ∈ fp, ∀ o, H a = some o → F' a = some o) → v.map (·.1) = d.map (·.1) ∧ RDs K F' (v.map (·.2)) (d.map (·.2))
  | _, _, _, _, .nil, _ => ⟨rfl, .nil⟩
  | _, _, _, _, .cons a b n, k => by
    obtain ⟨e, q⟩ := OwnF.rd l b fun x m => k x (List.mem_append_right _ m)
    exact ⟨by simp [e], .cons (Own.rd l a fun x m => k x (List.mem_append_left _ m)) q⟩
end
theorem Owns.of_rds {K : Fg} {F H : Hp} : ∀ {vs : List V} {ds : List D}, RDs K F vs ds → Owns K F H .fz vs ds []
  | _, _, .nil => .nil
  | _, _, .cons a b => by
    have q := Owns.cons (Own.fz (H := H) a) (Owns.of_rds b) (fun _ m => by cases m)
    simpa using q
theorem Owns.fz_rds {K : Fg} {F H : Hp} : ∀ {vs : List V} {ds : List D} {fp : List Addr}, Owns K F H .fz vs ds fp → RDs K F vs ds ∧ fp = []
  | _, _, _, .nil => ⟨.nil, rfl⟩
  | _, _, _, .cons a b n => by
    cases a with
    | fz r =>
      obtain ⟨q, e⟩ := Owns.fz_rds b
      subst e
      exact ⟨.cons r q, rfl⟩
/-! ### the names' data -/
abbrev Rho := List (Option D)
inductive OwnL (K : Fg) (F H : Hp) : List Sh → L2.St → Rho → List Addr → Prop
  | nil : OwnL K F H [] [] [] []
  | un {s : Sh} {x : Option V} {ω : List Sh} {σ : L2.St} {ρ : Rho} {fp : List Addr} : OwnL K F H ω σ ρ fp → OwnL K F H (s :: ω) (x :: σ) (none :: ρ) fp
  | bd {s : Sh} {v : V} {d : D} {ω : List Sh} {σ : L2.St} {ρ : Rho} {fp fp2 : List Addr} : Own K F H s v d fp → OwnL K F H ω σ ρ fp2 → (∀ a ∈ fp, a ∉ fp2) → OwnL K F H (s :: ω) (some v :: σ) (some d :: ρ) (fp ++ fp2)
theorem OwnL.mono {K : Fg} {F F' H H' : Hp} (l : Le F F') : ∀ {ω : List Sh} {σ : L2.St} {ρ : Rho} {fp : List Addr}, OwnL K F H ω σ ρ fp → (∀ a ∈ fp, ∀ o, H a = some o → H' a = some o) → OwnL K F' H' ω σ ρ fp
  | _, _, _, _, .nil, _ => .nil
  | _, _, _, _, .un h, k => .un (OwnL.mono l h k)
  | _, _, _, _, .bd a b n, k => .bd (Own.mono l a fun x m => k x (List.mem_append_left _ m)) (OwnL.mono l b fun x m => k x (List.mem_append_right _ m)) n
theorem OwnL.live {K : Fg} {F H : Hp} : ∀ {ω : List Sh} {σ : L2.St} {ρ : Rho} {fp : List Addr}, OwnL K F H ω σ ρ fp → ∀ a ∈ fp, ∃ o, H a = some o
  | _, _, _, _, .nil, _, m => by cases m
  | _, _, _, _, .un h, a, m => OwnL.live h a m
  | _, _, _, _, .bd x y n, a, m => (List.mem_append.mp m).elim (fun m => Own.live x a m) fun m => OwnL.live y a m
theorem OwnL.len {K : Fg} {F H : Hp} : ∀ {ω : List Sh} {σ : L2.St} {ρ : Rho} {fp : List Addr}, OwnL K F H ω σ ρ fp → ω.length = ρ.length ∧ σ.length = ρ.length
  | _, _, _, _, .nil => ⟨rfl, rfl⟩
  | _, _, _, _, .un h => by obtain ⟨a, b⟩ := OwnL.len h; simp [a, b]
  | _, _, _, _, .bd _ h _ => by obtain ⟨a, b⟩ := OwnL.len h; simp [a, b]
/-- what may be changed -/
def Mut : HO → Prop
  | .lst _ => True
  | .dK _ => True
  | .dT _ => True
  | .ins _ _ _ => True
  | .own _ => True
  | _ => False
theorem muI {H : Hp} {a b : Addr} {o : HO} (e : a = b) (h : H b = some o) (m : Mut o) : ∃ o, H a = some o ∧ Mut o := by subst e; exact ⟨_, h, m⟩
mutual
theorem Own.mu {K : Fg} {F H : Hp} : ∀ {sh : Sh} {v : V} {d : D} {fp : List Addr}, Own K F H sh v d fp → ∀ a ∈ fp, ∃ o, H a = some o ∧ Mut o
  | _, _, _, _, .fz r, _, m => by cases m
  | _, _, _, _, .pin r, a, m => Own.mu r a m
  | _, _, _, _, .lst h r n, a, m => (List.mem_cons.mp m).elim (fun e => muI e h (by trivial)) fun m => Owns.mu r a m
  | _, _, _, _, .dK h e r n, a, m => (List.mem_cons.mp m).elim (fun e => muI e h (by trivial)) fun m => Owns.mu r a m
  | _, _, _, _, .dT h e r n, a, m => (List.mem_cons.mp m).elim (fun e => muI e h (by trivial)) fun m => Owns.mu r a m
  | _, _, _, _, .ins h h2 r n n2, a, m => (List.mem_cons.mp m).elim (fun e => muI e h (by trivial)) fun m => (List.mem_cons.mp m).elim (fun e => muI e h2 (by trivial)) fun m => OwnF.mu r a m
theorem Owns.mu {K : Fg} {F H : Hp} : ∀ {sh : Sh} {v : List V} {d : List D} {fp : List Addr}, Owns K F H sh v d fp → ∀ a ∈ fp, ∃ o, H a = some o ∧ Mut o
  | _, _, _, _, .nil, _, m => by cases m
  | _, _, _, _, .cons x y n, a, m => (List.mem_append.mp m).elim (fun m => Own.mu x a m) fun m => Owns.mu y a m
theorem OwnF.mu {K : Fg} {F H : Hp} : ∀ {sh : List (Str × Sh)} {v : List (Str × V)} {d : List (Str × D)} {fp : List Addr}, OwnF K F H sh v d fp → ∀ a ∈ fp, ∃ o, H a = some o ∧ Mut o
  | _, _, _, _, .nil, _, m => by cases m
  | _, _, _, _, .cons x y n, a, m => (List.mem_append.mp m).elim (fun m => Own.mu x a m) fun m => OwnF.mu y a m
end
theorem OwnL.mu {K : Fg} {F H : Hp} : ∀ {ω : List Sh} {σ : L2.St} {ρ : Rho} {fp : List Addr}, OwnL K F H ω σ ρ fp → ∀ a ∈ fp, ∃ o, H a = some o ∧ Mut o
  | _, _, _, _, .nil, _, m => by cases m
  | _, _, _, _, .un h, a, m => OwnL.mu h a m
  | _, _, _, _, .bd x y n, a, m => (List.mem_append.mp m).elim (fun m => Own.mu x a m) fun m => OwnL.mu y a m
/-- all of fp may be changed -/
def MuA (H : Hp) (fp : List Addr) : Prop := ∀ a ∈ fp, ∃ o, H a = some o ∧ Mut o
theorem MuA.tup {H : Hp} {fp : List Addr} (h : MuA H fp) : ∀ a ∈ fp, ∀ xs, H a ≠ some (.tup xs) := fun a m xs z => by
  obtain ⟨o, e, q⟩ := h a m
  rw [e] at z; cases z; exact q
theorem MuA.tbl {H : Hp} {fp : List Addr} (h : MuA H fp) : ∀ a ∈ fp, ∀ ps, H a ≠ some (.tbl ps) := fun a m xs z => by
  obtain ⟨o, e, q⟩ := h a m
  rw [e] at z; cases z; exact q
theorem MuA.ext {H : Hp} {fp : List Addr} (h : MuA H fp) : ∀ a ∈ fp, ∀ φ, H a ≠ some (.ext φ) := fun a m xs z => by
  obtain ⟨o, e, q⟩ := h a m
  rw [e] at z; cases z; exact q
theorem OwnL.nt {K : Fg} {F H : Hp} {ω : List Sh} {σ : L2.St} {ρ : Rho} {fp : List Addr} (o : OwnL K F H ω σ ρ fp) : ∀ a ∈ fp, ∀ xs, H a ≠ some (.tup xs) := MuA.tup o.mu
theorem Own.nt {K : Fg} {F H : Hp} {sh : Sh} {v : V} {d : D} {fp : List Addr} (o : Own K F H sh v d fp) : ∀ a ∈ fp, ∀ xs, H a ≠ some (.tup xs) := MuA.tup o.mu
/-! ### tables of code objects -/
/-- a def's table, the name that the lambdas of it bear -/
def tabE (K : Fg) (o : Obj) : Option (Addr × Str) := match o.data with
  | .func fd => (match fd.code with
    | .ref c => if PySem.W.codeHdIn K c (He.tabOf K c) = true ∧ K.lookup (He.tabOf K c) = none then some (He.tabOf K c, fd.qualname ++ ".<locals>." ++ "<lambda>") else none
    | _ => none)
  | _ => none
def tabsOf (K : Fg) : List (Addr × Str) := K.filterMap fun q => tabE K q.2
theorem tabsOf_ok {K : Fg} {p : Addr × Str} (h : p ∈ tabsOf K) : K.lookup p.1 = none ∧ ∃ c, PySem.W.codeHdIn K c p.1 = true := by
  obtain ⟨q, _, e⟩ := List.mem_filterMap.mp h
  unfold tabE at e
  split at e
  · split at e
    · rename_i c _
      split at e
      · rename_i z
        cases e
        exact ⟨z.2, c, z.1⟩
      · cases e
    · cases e
  · cases e
/-- what others own stands; tables may grow -/
def Gw (K : Fg) (H : Hp) (a : Addr) (o : HO) : Prop := match o with
  | .tbl _ => ∃ q, (a, q) ∈ tabsOf K ∧ ∀ q', (a, q') ∈ tabsOf K → LamX.TabS H a q'
  | o => H a = some o
def LeG (K : Fg) (G H : Hp) : Prop := ∀ a o, G a = some o → Gw K H a o
theorem Gw.of {K : Fg} {H : Hp} {a : Addr} {o : HO} (h : H a = some o) (n : ∀ ps, o ≠ .tbl ps) : Gw K H a o := by
  cases o with
  | tbl ps => exact absurd rfl (n ps)
  | _ => exact h
theorem Gw.at {K : Fg} {H : Hp} {a : Addr} {o : HO} (h : Gw K H a o) (n : ∀ ps, o ≠ .tbl ps) : H a = some o := by
  cases o with
  | tbl ps => exact absurd rfl (n ps)
  | _ => exact h
theorem tabS_up {H H' : Hp} {a : Addr} {q : Str} (t : LamX.TabS H a q) (k : ∀ ps, H a = some (.tbl ps) → H' a = some (.tbl ps)) (k2 : ∀ c φ, H c = some (.ext φ) → H' c = some (.ext φ)) : LamX.TabS H' a q := by
  obtain ⟨ps, h1, h2, h3⟩ := t
  refine ⟨ps, k _ h1, h2, fun pos cv hc => ?_⟩
  obtain ⟨c, e1, e2⟩ := h3 pos cv hc
  exact ⟨c, e1, k2 _ _ e2⟩
theorem Gw.up {K : Fg} {H H' : Hp} {a : Addr} {o : HO} (h : Gw K H a o) (k : ∀ u, H a = some u → H' a = some u) (k2 : ∀ c φ, H c = some (.ext φ) → H' c = some (.ext φ)) : Gw K H' a o := by
  cases o with
  | tbl ps =>
    obtain ⟨q, m, t⟩ := h
    exact ⟨q, m, fun q' m' => tabS_up (t q' m') (fun ps z => k _ z) k2⟩
  | _ => exact k _ h
theorem Gw.live {K : Fg} {H : Hp} {a : Addr} {o : HO} (h : Gw K H a o) : H a ≠ none := fun z => by
  cases o with
  | tbl ps =>
    obtain ⟨q, m, t⟩ := h
    obtain ⟨ps, e, _⟩ := t q m
    rw [z] at e; cases e
  | _ =>
    have e : H a = some _ := h
    rw [z] at e; cases e
theorem LeG.trans {K : Fg} {G H H' : Hp} (g : LeG K G H) (l : Le H H') : LeG K G H' := fun a o e => (g a o e).up (fun u z => l a u z) fun c φ z => l c _ z
theorem LeG.live {K : Fg} {G H : Hp} (g : LeG K G H) {a : Addr} (q : G a ≠ none) : H a ≠ none := by
  cases e : G a with
  | none => exact absurd e q
  | some o => exact (g a o e).live
theorem LeG.none {K : Fg} {G H : Hp} (g : LeG K G H) {a : Addr} (e : H a = none) : G a = none := by
  cases q : G a with
  | none => rfl
  | some o => exact absurd e (g.live (by rw [q]; exact fun z => nomatch z))
theorem LeG.upd {K : Fg} {G H : Hp} (g : LeG K G H) {a : Addr} {u o : HO} (ga : G a = Option.none) (ha : H a = some u) (mu : Mut u) : LeG K G (L2.upd H a o) := fun b w e => by
  have ne : b ≠ a := ne_of_none e ga
  refine (g b w e).up (fun v z => by rw [upd_ne ne]; exact z) fun c φ z => ?_
  rw [upd_ne fun y => by rw [y, ha] at z; cases z; exact mu]
  exact z
theorem LeG.with {K : Fg} {G H : Hp} {fp : List Addr} (g : LeG K G H) (m : MuA H fp) : LeG K (withH G H fp) H := fun a o e => by
  by_cases h : a ∈ fp
  · rw [withH_in h] at e
    refine Gw.of e fun ps z => ?_
    subst z
    exact m.tbl a h ps e
  · rw [withH_out h] at e; exact g a o e
theorem LeG.at {K : Fg} {G H : Hp} (g : LeG K G H) {a : Addr} {o : HO} (e : G a = some o) (mu : Mut o) : H a = some o := (g a o e).at fun ps z => by subst z; exact mu
/-- what stood at fp is left as it was -/
theorem LeG.kept {K : Fg} {G H H' : Hp} {fp : List Addr} (g : LeG K (withH G H fp) H') (m : MuA H fp) : ∀ a ∈ fp, ∀ o, H a = some o → H' a = some o := fun a h o e => by
  obtain ⟨u, e2, mu⟩ := m a h
  rw [e] at e2; cases e2
  exact g.at (by rw [withH_in h]; exact e) mu
/-- F and what others own are apart; others own no tuples -/
def Dj (K : Fg) (F G : Hp) : Prop := (∀ a, G a ≠ none → F a = none) ∧ (∀ a o, G a = some o → Mut o ∨ ∃ ps, o = .tbl ps) ∧ ∀ p ∈ tabsOf K, ∃ ps, G p.1 = some (.tbl ps)
theorem Dj.with {K : Fg} {F G H : Hp} {fo : List Addr} (dj : Dj K F G) (g : LeG K G H) (h : ∀ a, withH G H fo a ≠ none → F a = none) (n : MuA H fo) : Dj K F (withH G H fo) := ⟨h, fun a o z => by
  by_cases m : a ∈ fo
  · rw [withH_in m] at z
    obtain ⟨o', e, mu⟩ := n a m
    rw [z] at e; cases e
    exact .inl mu
  · rw [withH_out m] at z; exact dj.2.1 a o z, fun p hp => by
  obtain ⟨ps, e⟩ := dj.2.2 p hp
  refine ⟨ps, ?_⟩
  rw [withH_out fun m => ?_]
  · exact e
  · obtain ⟨q, mq, t⟩ := g _ _ e
    obtain ⟨ps', e', _⟩ := t q mq
    exact n.tbl _ m _ e'⟩
theorem Dj.nt {K : Fg} {F G H : Hp} (dj : Dj K F G) (g : LeG K G H) {b : Addr} (q : G b ≠ none) : ∀ xs, H b ≠ some (.tup xs) := fun xs z => by
  cases e : G b with
  | none => exact q e
  | some u =>
    have w := g b u e
    cases u with
    | tbl ps =>
      obtain ⟨q, mq, t⟩ := w
      obtain ⟨ps', e', _⟩ := t q mq
      rw [e'] at z; cases z
    | tup ys =>
      rcases dj.2.1 b _ e with m | ⟨ps, m⟩
      · exact m
      · cases m
    | _ =>
      have w : H b = some _ := w
      rw [z] at w; cases w
theorem Dj.tabs {K : Fg} {F G H : Hp} (dj : Dj K F G) (g : LeG K G H) : LamX.Tabs (tabsOf K) H := fun p hp => by
  obtain ⟨ps, e⟩ := dj.2.2 p hp
  obtain ⟨q, mq, t⟩ := g _ _ e
  exact t p.2 hp
theorem Dj.notG {K : Fg} {F G H : Hp} (dj : Dj K F G) (g : LeG K G H) {b : Addr} {o : HO} (h : H b = some o) (nm : ¬ Mut o) (nt : ∀ ps, o ≠ .tbl ps) : G b = none := by
  cases e : G b with
  | none => rfl
  | some u =>
    have w := g b u e
    rcases dj.2.1 b u e with m | ⟨ps, rfl⟩
    · have w := w.at fun ps z => by rw [z] at m; exact m
      rw [h] at w; cases w; exact absurd m nm
    · obtain ⟨q, mq, t⟩ := w
      obtain ⟨ps', e', _⟩ := t q mq
      rw [h] at e'; cases e'
      exact absurd rfl (nt _)
/-- F: frozen; G: what others own, left as it is; the names' data -/
structure Sim (K : Fg) (ω : List Sh) (F G H : Hp) (ρ : Rho) (σ : L2.St) : Prop where
  own : ∃ fp, OwnL K F H ω σ ρ fp ∧ ∀ a ∈ fp, F a = none ∧ G a = none
  fH : Le F H
  gH : LeG K G H
  dj : Dj K F G
section
variable {K : Fg} {ω : List Sh} {F F' G H H' : Hp} {ρ : Rho} {σ : L2.St} {sh : Sh} {v : V} {d : D}
/-- new objects are laid and frozen -/
theorem Sim.grow (S : Sim K ω F G H ρ σ) (lf : Le F F') (lh : Le H H') (fh : Le F' H') (new : ∀ a, F a = none → H a ≠ none → (∀ xs, H a ≠ some (.tup xs)) → F' a = none) : Sim K ω F' G H' ρ σ := by
  obtain ⟨⟨fp, o, n⟩, a, b, dj⟩ := S
  refine ⟨⟨fp, o.mono lf fun x _ u e => lh x u e, fun x m => ⟨new x (n x m).1 ?_ (o.nt x m), (n x m).2⟩⟩, fh, b.trans lh, ⟨fun x q => new x (dj.1 x q) (fun z => ?_) (dj.nt b q), dj.2⟩⟩
  rotate_left
  · exact b.live q z
  obtain ⟨u, e⟩ := o.live x m
  rw [e]; exact fun z => nomatch z
theorem Sim.new (S : Sim K ω F G H ρ σ) {p : Addr} {o : HO} (h : H p = none) : Le F (upd F p o) ∧ Sim K ω (upd F p o) G (upd H p o) ρ σ :=
  ⟨Le.upd (S.fH.none h), S.grow (Le.upd (S.fH.none h)) (Le.upd h) S.fH.both fun a e n _ => by
    rw [upd_ne (fun z => n (by rw [z]; exact h))]; exact e⟩
theorem Sim.push (S : Sim K ω F G H ρ σ) (r : RD K F v d) : Sim K (.fz :: ω) F G H (some d :: ρ) (some v :: σ) := by
  obtain ⟨⟨fp, o, n⟩, a, b, dj⟩ := S
  exact ⟨⟨[] ++ fp, .bd (.fz r) o (fun _ m => by cases m), n⟩, a, b, dj⟩
theorem Sim.top (S : Sim K (.fz :: ω) F G H (some d :: ρ) (some v :: σ)) : RD K F v d ∧ Sim K ω F G H ρ σ := by
  obtain ⟨⟨fp, o, n⟩, a, b, dj⟩ := S
  cases o with
  | bd x y z =>
    cases x with
    | fz r => exact ⟨r, ⟨⟨_, y, n⟩, a, b, dj⟩⟩
theorem Sim.pop {x : Option V} {y : Option D} (S : Sim K (sh :: ω) F G H (y :: ρ) (x :: σ)) : Sim K ω F G H ρ σ := by
  obtain ⟨⟨fp, o, n⟩, a, b, dj⟩ := S
  cases o with
  | bd x y z => exact ⟨⟨_, y, fun a m => n a (List.mem_append_right _ m)⟩, a, b, dj⟩
  | un y => exact ⟨⟨_, y, n⟩, a, b, dj⟩
theorem OwnL.get {fp : List Addr} (o : OwnL K F H ω σ ρ fp) : ∀ {i : Nat}, ω[i]? = some .fz → ρ[i]? = some (some d) → ∃ v, σ[i]? = some (some v) ∧ RD K F v d := by
  induction o with
  | nil => intro i h; simp at h
  | un _ ih =>
    intro i h1 h2
    cases i with
    | zero => simp at h2
    | succ i => simpa using ih (i := i) (by simpa using h1) (by simpa using h2)
  | @bd s v' d' ω' σ' ρ' fp1 fp2 a _ _ ih =>
    intro i h1 h2
    cases i with
    | zero =>
      simp at h1 h2
      subst h1 h2
      cases a with
      | fz r => exact ⟨v', rfl, r⟩
    | succ i => simpa using ih (i := i) (by simpa using h1) (by simpa using h2)
theorem Sim.get (S : Sim K ω F G H ρ σ) {i : Nat} (h1 : ω[i]? = some .fz) (h2 : ρ[i]? = some (some d)) : ∃ v, σ[i]? = some (some v) ∧ RD K F v d := by
  obtain ⟨⟨fp, o, n⟩, a, b, dj⟩ := S
  exact o.get h1 h2
theorem OwnL.set {fp fv : List Addr} (w : Own K F H sh v d fv) (o : OwnL K F H ω σ ρ fp) : ∀ (i : Nat), (∀ a ∈ fv, a ∉ fp) → ∃ fp', OwnL K F H (ω.set i sh) (σ.set i (some v)) (ρ.set i (some d)) fp' ∧ ∀ a ∈ fp', a ∈ fv ∨ a ∈ fp := by
  induction o with
  | nil => intro i h; exact ⟨[], .nil, (fun _ m => by cases m)⟩
  | @un s x ω' σ' ρ' fp' b ih =>
    intro i h
    cases i with
    | zero => exact ⟨fv ++ fp', .bd w b h, fun a m => List.mem_append.mp m⟩
    | succ i =>
      obtain ⟨fq, q, m⟩ := ih i h
      exact ⟨fq, .un q, m⟩
  | @bd s v' d' ω' σ' ρ' fp1 fp2 a b n ih =>
    intro i h
    cases i with
    | zero => exact ⟨fv ++ fp2, .bd w b fun x m z => h x m (List.mem_append_right _ z), fun x m => (List.mem_append.mp m).imp id fun m => List.mem_append_right _ m⟩
    | succ i =>
      obtain ⟨fq, q, m⟩ := ih i fun x z y => h x z (List.mem_append_right _ y)
      refine ⟨fp1 ++ fq, .bd a q fun x z y => ?_, fun x z => ?_⟩
      · rcases m x y with y | y
        · exact h x y (List.mem_append_left _ z)
        · exact n x z y
      · rcases List.mem_append.mp z with z | z
        · exact .inr (List.mem_append_left _ z)
        · exact (m x z).imp id fun m => List.mem_append_right _ m
/-- the value just made is stored at slot i -/
theorem Sim.set (S : Sim K (sh :: ω) F G H (some d :: ρ) (some v :: σ)) (i : Nat) : Sim K (ω.set i sh) F G H (ρ.set i (some d)) (σ.set i (some v)) := by
  obtain ⟨⟨fp, o, n⟩, a, b, dj⟩ := S
  cases o with
  | bd x y z =>
    obtain ⟨fq, q, m⟩ := OwnL.set x y i z
    exact ⟨⟨fq, q, fun a h => n a (List.mem_append.mpr (m a h))⟩, a, b, dj⟩
/-- what a name owns is frozen -/
inductive Wk : List Sh → List Sh → Prop
  | nil : Wk [] []
  | same {s : Sh} {ω ω' : List Sh} : Wk ω ω' → Wk (s :: ω) (s :: ω')
  | fz {s : Sh} {ω ω' : List Sh} : Wk ω ω' → Wk (s :: ω) (.fz :: ω')
theorem Wk.refl : ∀ ω : List Sh, Wk ω ω
  | [] => .nil
  | _ :: ω => .same (Wk.refl ω)
theorem OwnL.wk {ω' : List Sh} (wk : Wk ω ω') : ∀ {σ : L2.St} {ρ : Rho} {fp : List Addr} {F : Hp}, OwnL K F H ω σ ρ fp → Le F H → (∀ a ∈ fp, F a = none) → ∃ F' fp', Le F F' ∧ Le F' H ∧ (∀ a ∈ fp', a ∈ fp) ∧ (∀ a, a ∉ fp → F' a = F a) ∧ OwnL K F' H ω' σ ρ fp' ∧ ∀ a ∈ fp', F' a = none := by
  induction wk with
  | nil =>
    intro σ ρ fp F o l n
    cases o
    exact ⟨F, [], Le.refl _, l, (fun _ m => by cases m), fun _ _ => rfl, .nil, (fun _ m => by cases m)⟩
  | same w ih =>
    intro σ ρ fp F o l n
    cases o with
    | un o =>
      obtain ⟨F', fp', a, b, c, c2, d, e⟩ := ih o l n
      exact ⟨F', fp', a, b, c, c2, .un d, e⟩
    | bd x y z =>
      rename_i v d σ ρ fp1 fp2
      obtain ⟨F', fp', a, b, c, c2, d, e⟩ := ih y l fun a m => n a (List.mem_append_right _ m)
      refine ⟨F', fp1 ++ fp', a, b, fun x m => ?_, fun x m => c2 x fun q => m (List.mem_append_right _ q), .bd (x.mono a fun _ _ _ e => e) d fun x m q => z x m (c x q), fun x m => ?_⟩
      · exact (List.mem_append.mp m).elim (fun m => List.mem_append_left _ m) fun m => List.mem_append_right _ (c x m)
      · rcases List.mem_append.mp m with m | m
        · rw [c2 x (z x m)]; exact n x (List.mem_append_left _ m)
        · exact e x m
  | fz w ih =>
    intro σ ρ fp F o l n
    cases o with
    | un o =>
      obtain ⟨F', fp', a, b, c, c2, d, e⟩ := ih o l n
      exact ⟨F', fp', a, b, c, c2, .un d, e⟩
    | bd x y z =>
      rename_i v d σ ρ fp1 fp2
      have n1 : ∀ a ∈ fp1, F a = none := fun a m => n a (List.mem_append_left _ m)
      obtain ⟨F', fp', a, b, c, c2, d, e⟩ := ih (y.mono (withH_le (H := H) n1) fun _ _ _ e => e) (withH_sub l) fun a m => by
        rw [withH_out (fun q => z a q m)]; exact n a (List.mem_append_right _ m)
      refine ⟨F', [] ++ fp', (withH_le n1).trans a, b, fun x m => List.mem_append_right _ (c x m), fun x m => ?_, .bd (.fz (x.rd ((withH_le n1).trans a) fun x m o e => a x o (by rw [withH_in m]; exact e))) d (fun _ m => by cases m), e⟩
      rw [c2 x fun q => m (List.mem_append_right _ q), withH_out fun q => m (List.mem_append_left _ q)]
theorem Sim.wk {ω' : List Sh} (S : Sim K ω F G H ρ σ) (w : Wk ω ω') : ∃ F', Le F F' ∧ Sim K ω' F' G H ρ σ := by
  obtain ⟨⟨fp, o, n⟩, a, b, dj⟩ := S
  obtain ⟨F', fp', x, y, z, z2, u, t⟩ := o.wk w a fun a m => (n a m).1
  exact ⟨F', x, ⟨fp', u, fun a m => ⟨t a m, (n a (z a m)).2⟩⟩, y, b, ⟨fun x q => by rw [z2 x fun m => q (n x m).2]; exact dj.1 x q, dj.2⟩⟩
/-- what does not change is frozen -/
theorem Sim.freezeO {dx : Addr} {w : HO} (S : Sim K ω F G H ρ σ) (hx : H dx = some w) (nm : ¬ Mut w) (nt : ∀ ps, w ≠ .tbl ps) : ∃ F', Le F F' ∧ F' dx = some w ∧ Sim K ω F' G H ρ σ := by
  obtain ⟨⟨fp, o, n⟩, a, b, dj⟩ := S
  have l : Le F (L2.upd F dx w) := fun x u e => by
    by_cases h : x = dx
    · subst h
      rw [a x u e] at hx
      cases hx
      exact upd_same
    · rw [upd_ne h]; exact e
  have nf : ∀ x ∈ fp, x ≠ dx := fun x m z => by
    obtain ⟨u, e, mu⟩ := o.mu x m
    rw [z, hx] at e; cases e; exact nm mu
  refine ⟨L2.upd F dx w, l, upd_same, ⟨fp, o.mono l fun _ _ _ e => e, fun x m => ⟨by rw [upd_ne (nf x m)]; exact (n x m).1, (n x m).2⟩⟩, fun x u e => ?_, b, fun x q => ?_, dj.2⟩
  · by_cases h : x = dx
    · subst h
      rw [upd_same] at e; cases e; exact hx
    · rw [upd_ne h] at e; exact a x u e
  · rw [upd_ne fun z => q (by rw [z]; exact dj.notG b hx nm nt)]
    exact dj.1 x q
end
end DL
/-! DL: what an expression is worth, as a function of the names' data. -/
namespace DL
open PySem PySem.Spec PyProof.Rows L2
/-- an exception: its class's name, its fields -/
structure Exn where
  cls : Str
  fs : List (Str × D)
inductive Res (α : Type) where
  | ok (a : α) (ρ : Rho) | exc (e : Exn) (ρ : Rho) | no
abbrev M (α : Type) := Rho → Res α
def Res.sat {α : Type} (r : Res α) (P : α → Rho → Prop) (Z : Exn → Rho → Prop) : Prop :=
  match r with
  | .ok a ρ => P a ρ
  | .exc e ρ => Z e ρ
  | .no => False
def pureM {α : Type} (a : α) : M α := fun ρ => .ok a ρ
def bindM {α β : Type} (m : M α) (f : α → M β) : M β := fun ρ =>
  match m ρ with
  | .ok a ρ1 => f a ρ1
  | .exc e ρ1 => .exc e ρ1
  | .no => .no
def failM {α : Type} : M α := fun _ => .no
def liftO {α : Type} (o : Option α) : M α := fun ρ =>
  match o with
  | some a => .ok a ρ
  | none => .no
def getV (i : Nat) : M D := fun ρ =>
  match ρ[i]? with
  | some (some d) => .ok d ρ
  | _ => .no
theorem Res.sat_bind {α β : Type} {m : M α} {f : α → M β} {ρ : Rho} {P : β → Rho → Prop} {Z : Exn → Rho → Prop} (h : (bindM m f ρ).sat P Z) : (m ρ).sat (fun a ρ1 => (f a ρ1).sat P Z) Z := by
  unfold bindM at h
  cases e : m ρ with
  | ok a ρ1 => rw [e] at h; exact h
  | exc x ρ1 => rw [e] at h; exact h
  | no => rw [e] at h; exact h
theorem Res.sat_mono {α : Type} {r : Res α} {P P' : α → Rho → Prop} {Z Z' : Exn → Rho → Prop} (h : r.sat P Z) (hp : ∀ a ρ, P a ρ → P' a ρ) (hz : ∀ a ρ, Z a ρ → Z' a ρ) : r.sat P' Z' := by
  cases r with
  | ok a ρ => exact hp a ρ h
  | exc a ρ => exact hz a ρ h
  | no => exact h
/-- F grows as H does, by new objects alone -/
structure Gr (F H F' H' : Hp) : Prop where
  lf : Le F F'
  lh : Le H H'
  fh : Le F' H'
  new : ∀ a, F a = none → H a ≠ none → (∀ xs, H a ≠ some (.tup xs)) → F' a = none
theorem Gr.refl {F H : Hp} (h : Le F H) : Gr F H F H := ⟨Le.refl _, Le.refl _, h, fun _ e _ _ => e⟩
theorem Gr.one {F H : Hp} {p : Addr} {o : HO} (h : Le F H) (n : H p = none) : Gr F H (upd F p o) (upd H p o) :=
  ⟨Le.upd (h.none n), Le.upd n, h.both, fun a e q _ => by rw [upd_ne (fun z => q (by rw [z]; exact n))]; exact e⟩
theorem Gr.trans {F H F1 H1 F2 H2 : Hp} (a : Gr F H F1 H1) (b : Gr F1 H1 F2 H2) : Gr F H F2 H2 :=
  ⟨a.lf.trans b.lf, a.lh.trans b.lh, b.fh, fun x e n t => b.new x (a.new x e n t) (fun z => by
    cases q : H x with
    | none => exact n q
    | some o => rw [a.lh x o q] at z; cases z) (fun xs z => by
    cases q : H x with
    | none => exact n q
    | some o =>
      rw [a.lh x o q] at z
      exact t xs (q.trans z))⟩
theorem Sim.gr {K : Fg} {ω : List Sh} {F F' G H H' : Hp} {ρ : Rho} {σ : L2.St} (S : Sim K ω F G H ρ σ) (g : Gr F H F' H') : Sim K ω F' G H' ρ σ := S.grow g.lf g.lh g.fh g.new
/-- the class and the fields of an exception that flies -/
def ExIs (K : Fg) (mg : Str → Option Value) (F H : Hp) (e : Exn) (cls : Value) (dx : Option Addr) : Prop :=
  ∃ C, cls = .ref C ∧ mg e.cls = some (.ref C) ∧ (match dx with
    | none => e.fs = []
    | some d => ∃ fs : List (Str × V), H d = some (.xd fs) ∧ fs.map (·.1) = e.fs.map (·.1) ∧ RDs K F (fs.map (·.2)) (e.fs.map (·.2)))
section
variable {K : Fg} {mg : Str → Option Value} {W : WX} {ω : List Sh} {σ : L2.St} {H : Hp}
/-- what is wanted of an exception -/
def Zx (K : Fg) (mg : Str → Option Value) (W : WX) (ω : List Sh) (F G : Hp) (σ : L2.St) : Exn → Rho → Prop := fun e ρ' =>
  ∀ F' H' cls dx, Le F F' → Sim K ω F' G H' ρ' σ → ExIs K mg F' H' e cls dx → W cls dx σ H'
theorem Zx.le {F F1 G : Hp} (l : Le F F1) {e : Exn} {ρ' : Rho} (z : Zx K mg W ω F G σ e ρ') : Zx K mg W ω F1 G σ e ρ' := fun F' H' cls dx l' => z F' H' cls dx (l.trans l')
/-- the reading of m from a frozen heap F; the value is of shape sh -/
def tMF (K : Fg) (mg : Str → Option Value) (W : WX) (ω : List Sh) (sh : Sh) (F : Hp) (m : M D) : TE := fun σ H Q =>
  ∃ G ρ, Sim K ω F G H ρ σ ∧ (m ρ).sat (fun d ρ' => ∀ v F' H', Le F F' → Sim K (sh :: ω) F' G H' (some d :: ρ') (some v :: σ) → Q v H') (Zx K mg W ω F G σ)
def tM (K : Fg) (mg : Str → Option Value) (W : WX) (ω : List Sh) (sh : Sh) (m : M D) : TE := fun σ H Q => ∃ F, tMF K mg W ω sh F m σ H Q
/-- a first part, then the rest -/
theorem tMF_bind {sh : Sh} {F : Hp} {m : M D} {f : D → M D} {Q : VK} (h : tMF K mg W ω sh F (bindM m f) σ H Q) :
    tMF K mg W ω .fz F m σ H fun x H1 => ∃ d F1, Le F F1 ∧ RD K F1 x d ∧ tMF K mg W ω sh F1 (f d) σ H1 Q := by
  obtain ⟨G, ρ, S, h⟩ := h
  refine ⟨G, ρ, S, Res.sat_mono (Res.sat_bind h) (fun d ρ1 q v F1 H1 l S1 => ?_) fun _ _ z => z⟩
  obtain ⟨r, S2⟩ := S1.top
  exact ⟨d, F1, l, r, G, ρ1, S2, Res.sat_mono q (fun d' ρ' p v' F' H' l' S' => p v' F' H' (l.trans l') S') fun _ _ z => z.le l⟩
theorem tM_bind {sh : Sh} {m : M D} {f : D → M D} {Q : VK} (h : tM K mg W ω sh (bindM m f) σ H Q) :
    tM K mg W ω .fz m σ H fun x H1 => ∃ d F1, RD K F1 x d ∧ tMF K mg W ω sh F1 (f d) σ H1 Q := by
  obtain ⟨F, h⟩ := h
  obtain ⟨G, ρ, S, q⟩ := tMF_bind h
  exact ⟨F, G, ρ, S, Res.sat_mono q (fun d ρ1 q v F1 H1 l S1 => let ⟨d, F2, _, r, z⟩ := q v F1 H1 l S1; ⟨d, F2, r, z⟩) fun _ _ z => z⟩
theorem tMF_mono {sh : Sh} {F : Hp} {m : M D} {Q Q' : VK} (h : tMF K mg W ω sh F m σ H Q) (k : ∀ v H', Q v H' → Q' v H') : tMF K mg W ω sh F m σ H Q' := by
  obtain ⟨G, ρ, S, h⟩ := h
  exact ⟨G, ρ, S, Res.sat_mono h (fun d ρ1 q v F1 H1 l S1 => k _ _ (q v F1 H1 l S1)) fun _ _ z => z⟩
/-- the answer is there: a value that reads as it, new objects at most -/
theorem tMF_ret {F : Hp} {d : D} {Q : VK} (h : tMF K mg W ω .fz F (pureM d) σ H Q) : Le F H ∧ ∀ v F' H', Gr F H F' H' → RD K F' v d → Q v H' := by
  obtain ⟨G, ρ, S, h⟩ := h
  exact ⟨S.fH, fun v F' H' g r => h v F' H' g.lf ((S.gr g).push r)⟩
theorem tMF_lift {F : Hp} {o : Option D} {Q : VK} (h : tMF K mg W ω .fz F (liftO o) σ H Q) : Le F H ∧ ∃ d, o = some d ∧ ∀ v F' H', Gr F H F' H' → RD K F' v d → Q v H' := by
  cases o with
  | none => obtain ⟨_, _, _, h⟩ := h; exact h.elim
  | some d => obtain ⟨a, b⟩ := tMF_ret (d := d) h; exact ⟨a, d, rfl, b⟩
end
/-- e is worth m -/
abbrev DE (X : Cx) (W : WX) (ω : List Sh) (e : Expr) (sh : Sh) (m : M D) : Prop := PE X e (tM X.K X.mg W ω sh m)
section
variable {X : Cx} {W : WX} {ω : List Sh} {pos : Pos} {a b c : Expr} {m1 m2 m3 : M D}
theorem PE.imp {e : Expr} {t t' : TE} (h : PE X e t) (k : ∀ σ H Q, t' σ H Q → t σ H Q) : PE X e t' := ⟨fun pins s σ H Q I q => h.run pins s σ H Q I (k σ H Q q)⟩
/-! ### names, constants -/
theorem de_var {i : Nat} {x : Str} (hs : ω[i]? = some .fz) (h : PE X (.Name x pos) (tVar i)) : DE X W ω (.Name x pos) .fz (getV i) := by
  refine PE.imp h fun σ H Q ⟨F, G, ρ, S, q⟩ => ?_
  unfold getV at q
  split at q
  · rename_i d e
    obtain ⟨v, ev, r⟩ := S.get hs e
    exact ⟨v, ev, q v F H (Le.refl _) (S.push r)⟩
  · exact q.elim
theorem de_const {e : Expr} {v : V} {d : D} (h : PE X e (tC v)) (r : ∀ F, RD X.K F v d) : DE X W ω e .fz (pureM d) :=
  PE.imp h fun σ H Q ⟨F, q⟩ => by
    obtain ⟨l, q⟩ := tMF_ret q
    exact q v F H (Gr.refl l) (r F)
theorem de_int {i : Int} {j} : DE X W ω (.Constant (.int i) j pos) .fz (pureM (.int i)) := de_const pe_int fun _ => .int i
theorem de_bl {i : Bool} {j} : DE X W ω (.Constant (.bool i) j pos) .fz (pureM (.bl i)) := de_const pe_bl fun _ => .bl i
theorem de_non {j} : DE X W ω (.Constant .none j pos) .fz (pureM .non) := de_const pe_non fun _ => .non
theorem de_str {i : Str} {j} : DE X W ω (.Constant (.str i) j pos) .fz (pureM (.str i)) := de_const pe_str fun _ => .str i
/-! ### two-place operators, by data -/
/-- f on values that read as d1, d2 hands back one that reads as g d1 d2 -/
def OpD (X : Cx) (f : Value → Value → Sem Value) (g : D → D → Option D) : Prop :=
  ∀ (F : Hp) (d1 d2 r : D), g d1 d2 = some r → OpR X f fun x y H Q => Le F H ∧ RD X.K F x d1 ∧ RD X.K F y d2 ∧ ∀ z F' H', Gr F H F' H' → RD X.K F' z r → Q z H'
def bin (g : D → D → Option D) (m1 m2 : M D) : M D := bindM m1 fun x => bindM m2 fun y => liftO (g x y)
theorem tbin {f : Value → Value → Sem Value} {g : D → D → Option D} (ho : OpD X f g) {σ : L2.St} {H : Hp} {Q : VK} (h : tM X.K X.mg W ω .fz (bin g m1 m2) σ H Q) :
    tM X.K X.mg W ω .fz m1 σ H fun x H1 => tM X.K X.mg W ω .fz m2 σ H1 fun y H2 => ∃ F d1 d2 r, g d1 d2 = some r ∧ Le F H2 ∧ RD X.K F x d1 ∧ RD X.K F y d2 ∧ ∀ z F' H', Gr F H2 F' H' → RD X.K F' z r → Q z H' := by
  obtain ⟨F, q⟩ := tM_bind h
  refine ⟨F, tMF_mono q fun x H1 ⟨d1, F1, r1, q1⟩ => ⟨F1, tMF_mono (tMF_bind q1) fun y H2 ⟨d2, F2, l2, r2, q2⟩ => ?_⟩⟩
  obtain ⟨l, r, e, k⟩ := tMF_lift q2
  exact ⟨F2, d1, d2, r, e, l, r1.mono l2, r2, k⟩
theorem de_op {op : Operator} {g : D → D → Option D} (ho : OpD X (binaryOp op) g) (ha : DE X W ω a .fz m1) (hb : DE X W ω b .fz m2) : DE X W ω (.BinOp a op b pos) .fz (bin g m1 m2) := by
  refine ⟨fun pins s σ H Q I h => ?_⟩
  refine wpAny_BinOp (binT ha hb I (tbin ho h) fun v u s2 x y H2 I2 rx ry q => ?_)
  obtain ⟨F, d1, d2, r, e, q⟩ := q
  exact ho F d1 d2 r e pins s2 σ H2 x y v u Q I2 rx ry q
theorem de_cmp {op : CmpOp} {g : D → D → Option D} (ho : OpD X (compareOp op) g) (ha : DE X W ω a .fz m1) (hb : DE X W ω b .fz m2) (hm : behindInMarks op b = false) : DE X W ω (.Compare a [op] [b] pos) .fz (bin g m1 m2) := by
  refine ⟨fun pins s σ H Q I h => ?_⟩
  refine wpAny_Compare1 (binT ha hb I (tbin ho h) fun v u s2 x y H2 I2 rx ry q => ?_) hm
  obtain ⟨F, d1, d2, r, e, q⟩ := q
  exact ho F d1 d2 r e pins s2 σ H2 x y v u Q I2 rx ry q
/-- a one-place operator -/
def UnD (X : Cx) (f : Value → Sem Value) (g : D → Option D) : Prop :=
  ∀ (F : Hp) (d1 r : D), g d1 = some r → UnR X f fun x H Q => Le F H ∧ RD X.K F x d1 ∧ ∀ z F' H', Gr F H F' H' → RD X.K F' z r → Q z H'
def un1 (g : D → Option D) (m1 : M D) : M D := bindM m1 fun x => liftO (g x)
theorem tun {g : D → Option D} {σ : L2.St} {H : Hp} {Q : VK} (h : tM X.K X.mg W ω .fz (un1 g m1) σ H Q) :
    tM X.K X.mg W ω .fz m1 σ H fun x H1 => ∃ F d1 r, g d1 = some r ∧ Le F H1 ∧ RD X.K F x d1 ∧ ∀ z F' H', Gr F H1 F' H' → RD X.K F' z r → Q z H' := by
  obtain ⟨F, q⟩ := tM_bind h
  refine ⟨F, tMF_mono q fun x H1 ⟨d1, F1, r1, q1⟩ => ?_⟩
  obtain ⟨l, r, e, k⟩ := tMF_lift q1
  exact ⟨F1, d1, r, e, l, r1, k⟩
theorem de_un {op : UnaryOp} {g : D → Option D} (ho : UnD X (unaryOp op) g) (ha : DE X W ω a .fz m1) : DE X W ω (.UnaryOp op a pos) .fz (un1 g m1) := by
  refine ⟨fun pins s σ H Q I h => ?_⟩
  refine UnaryOp_ (thn (ha.run pins s σ H _ I (tun h)) fun v s1 ⟨x, H1, I1, r1, q1⟩ => ?_)
  obtain ⟨F, d1, r, e, q⟩ := q1
  exact ho F d1 r e pins s1 σ H1 x v Q I1 r1 q
/-! ### the operators -/
def mulOk (i j : Int) : Bool := decide (i.natAbs < 2 ^ 64) || decide (j.natAbs < 2 ^ 64)
def gAdd : D → D → Option D
  | .int i, .int j => some (.int (i + j))
  | .str x, .str y => if x.length + y.length ≤ sizeLine then some (.str (x ++ y)) else none
  | .lst xs, .lst ys => if xs.length + ys.length ≤ sizeLine then some (.lst (xs ++ ys)) else none
  | .tup xs, .tup ys => if xs.length + ys.length ≤ sizeLine then some (.tup (xs ++ ys)) else none
  | _, _ => none
def gSubI : D → D → Option D
  | .int i, .int j => some (.int (i - j))
  | _, _ => none
def gMul : D → D → Option D
  | .int i, .int j => if mulOk i j then some (.int (i * j)) else none
  | .lst xs, .int k => if -(2 ^ 63) ≤ k ∧ k < 2 ^ 63 ∧ xs.length * k.toNat ≤ sizeLine then some (.lst (List.replicate k.toNat xs).flatten) else none
  | _, _ => none
def gMod : D → D → Option D
  | .int i, .int j => if j ≠ 0 then some (.int (i.fmod j)) else none
  | _, _ => none
def gDiv : D → D → Option D
  | .int i, .int j => if j ≠ 0 ∧ j.natAbs < 1073741824 then some (.int (i.fdiv j)) else none
  | _, _ => none
def gPow : D → D → Option D
  | .int i, .int j => if 0 ≤ j ∧ j ≤ 1000000 ∧ i.natAbs < 2 ^ 64 then some (.int (i ^ j.toNat)) else none
  | _, _ => none
theorem OpR.imp {f : Value → Value → Sem Value} {r r' : R2} (h : OpR X f r) (k : ∀ x y H Q, r' x y H Q → r x y H Q) : OpR X f r' := fun pins s σ H x y v u Q I rx ry q => h pins s σ H x y v u Q I rx ry (k x y H Q q)
theorem opd_int {f : Value → Value → Sem Value} {C : Int → Int → Prop} {h : Int → Int → Int} {g : D → D → Option D} (ho : OpR X f (rI C fun i j => .int (h i j)))
    (hg : ∀ d1 d2 r, g d1 d2 = some r → ∃ i j, d1 = .int i ∧ d2 = .int j ∧ C i j ∧ r = .int (h i j)) : OpD X f g := fun F d1 d2 r e => by
  obtain ⟨i, j, rfl, rfl, hc, rfl⟩ := hg d1 d2 r e
  refine OpR.imp ho fun x y H Q ⟨l, r1, r2, q⟩ => ?_
  cases r1; cases r2
  exact ⟨i, j, rfl, rfl, hc, q _ F H (Gr.refl l) (.int _)⟩
theorem opd_int0 {f : Value → Value → Sem Value} {h : Int → Int → Int} {g : D → D → Option D} (ho : OpR X f (rI0 fun i j => .int (h i j)))
    (hg : ∀ d1 d2 r, g d1 d2 = some r → ∃ i j, d1 = .int i ∧ d2 = .int j ∧ r = .int (h i j)) : OpD X f g := fun F d1 d2 r e => by
  obtain ⟨i, j, rfl, rfl, rfl⟩ := hg d1 d2 r e
  refine OpR.imp ho fun x y H Q ⟨l, r1, r2, q⟩ => ?_
  cases r1; cases r2
  exact ⟨i, j, rfl, rfl, q _ F H (Gr.refl l) (.int _)⟩
theorem od_sub : OpD X (binaryOp .Sub) gSubI := opd_int0 op_sub fun d1 d2 r e => by
  unfold gSubI at e
  split at e
  · cases e; exact ⟨_, _, rfl, rfl, rfl⟩
  · cases e
theorem lt64 {i : Int} (h : i.natAbs < 2 ^ 64) : -(2 ^ 64) < i ∧ i < 2 ^ 64 := by omega
theorem od_mod : OpD X (binaryOp .Mod) gMod := opd_int op_modN fun d1 d2 r e => by
  unfold gMod at e
  split at e
  · split at e
    · rename_i h; cases e; exact ⟨_, _, rfl, rfl, h, rfl⟩
    · cases e
  · cases e
theorem od_div : OpD X (binaryOp .FloorDiv) gDiv := opd_int op_fdivN fun d1 d2 r e => by
  unfold gDiv at e
  split at e
  · split at e
    · rename_i h; cases e; exact ⟨_, _, rfl, rfl, h, rfl⟩
    · cases e
  · cases e
theorem od_pow : OpD X (binaryOp .Pow) gPow := opd_int op_pow fun d1 d2 r e => by
  unfold gPow at e
  split at e
  · split at e
    · rename_i h; cases e; exact ⟨_, _, rfl, rfl, h, rfl⟩
    · cases e
  · cases e
end
end DL
/-! DL: operators, arguments, displays, subscripts, slices, calls of built-ins. -/
namespace DL
open PySem PySem.Spec PyProof.Rows L2
section
variable {X : Cx} {W : WX} {ω : List Sh} {pos : Pos} {a b c : Expr} {m1 m2 m3 : M D}
theorem OpD.rule {f : Value → Value → Sem Value} {g : D → D → Option D} (h : ∀ (F : Hp) (d1 d2 r : D), g d1 d2 = some r → OpR X f fun x y H Q => Le F H ∧ RD X.K F x d1 ∧ RD X.K F y d2 ∧ ∀ z F' H', Gr F H F' H' → RD X.K F' z r → Q z H') : OpD X f g := h
/-- the four kinds of + -/
theorem od_add : OpD X (binaryOp .Add) gAdd := fun F d1 d2 r e => by
  unfold gAdd at e
  split at e
  · cases e
    refine OpR.imp op_add fun x y H Q ⟨l, r1, r2, q⟩ => ?_
    cases r1; cases r2
    exact ⟨_, _, rfl, rfl, q _ F H (Gr.refl l) (.int _)⟩
  · split at e
    · rename_i h
      cases e
      refine OpR.imp op_add_str fun x y H Q ⟨l, r1, r2, q⟩ => ?_
      cases r1; cases r2
      exact ⟨_, _, rfl, rfl, h, q _ F H (Gr.refl l) (.str _)⟩
    · cases e
  · split at e
    · rename_i h
      cases e
      refine OpR.imp op_cat fun x y H Q ⟨l, r1, r2, q⟩ => ?_
      cases r1 with
      | lst h1 s1 =>
        cases r2 with
        | lst h2 s2 =>
          refine ⟨_, _, _, _, rfl, rfl, l _ _ h1, l _ _ h2, by rw [s1.length, s2.length]; exact h, fun p np => ?_⟩
          exact q _ _ _ (Gr.one l np) (.lst upd_same ((s1.append s2).mono (Le.upd (l.none np))))
    · cases e
  · split at e
    · rename_i h
      cases e
      refine OpR.imp op_catA fun x y H Q ⟨l, r1, r2, q⟩ => ?_
      cases r1 with
      | tup h1 s1 =>
        cases r2 with
        | tup h2 s2 =>
          refine ⟨_, _, _, _, rfl, rfl, SqT.of (l _ _ h1), SqT.of (l _ _ h2), by rw [s1.length, s2.length]; exact h, fun e => ?_, fun _ e => ?_, fun _ _ p np => ?_⟩
          · subst e
            cases s1
            exact q _ F H (Gr.refl l) (.tup h2 s2)
          · subst e
            cases s2
            refine q _ F H (Gr.refl l) ?_
            rw [List.append_nil]
            exact .tup h1 s1
          · exact q _ _ _ (Gr.one l np) (.tup upd_same ((s1.append s2).mono (Le.upd (l.none np))))
    · cases e
  · cases e
theorem RDs.rep {K : Fg} {F : Hp} {xs : List V} {ds : List D} (h : RDs K F xs ds) : ∀ k : Nat, RDs K F (List.replicate k xs).flatten (List.replicate k ds).flatten
  | 0 => .nil
  | k + 1 => by
    rw [List.replicate_succ, List.replicate_succ, List.flatten_cons, List.flatten_cons]
    exact h.append (RDs.rep h k)
theorem od_mul : OpD X (binaryOp .Mult) gMul := fun F d1 d2 r e => by
  unfold gMul at e
  split at e
  · split at e
    · rename_i i j h
      cases e
      refine OpR.imp op_mul fun x y H Q ⟨l, r1, r2, q⟩ => ?_
      cases r1; cases r2
      refine ⟨_, _, rfl, rfl, ?_, q _ F H (Gr.refl l) (.int _)⟩
      unfold mulOk at h
      rw [Bool.or_eq_true] at h
      rcases h with h | h
      · exact .inl (lt64 (of_decide_eq_true h))
      · exact .inr (lt64 (of_decide_eq_true h))
    · cases e
  · split at e
    · rename_i h
      cases e
      refine OpR.imp op_rep fun x y H Q ⟨l, r1, r2, q⟩ => ?_
      cases r2
      cases r1 with
      | lst h1 s1 =>
        refine ⟨_, _, _, rfl, rfl, l _ _ h1, h.1, h.2.1, by rw [s1.length]; exact h.2.2, fun p np => ?_⟩
        exact q _ _ _ (Gr.one l np) (.lst upd_same ((s1.rep _).mono (Le.upd (l.none np))))
    · cases e
  · cases e
/-! ### comparisons -/
def gInt (p : Int → Int → Bool) : D → D → Option D
  | .int i, .int j => some (.bl (p i j))
  | _, _ => none
theorem od_cmp {f : Value → Value → Sem Value} {p : Int → Int → Bool} (ho : OpR X f (rI0 fun i j => .bl (p i j))) : OpD X f (gInt p) := fun F d1 d2 r e => by
  unfold gInt at e
  split at e
  · cases e
    refine OpR.imp ho fun x y H Q ⟨l, r1, r2, q⟩ => ?_
    cases r1; cases r2
    exact ⟨_, _, rfl, rfl, q _ F H (Gr.refl l) (.bl _)⟩
  · cases e
abbrev gLt := gInt fun i j => decide (i < j)
abbrev gLe := gInt fun i j => decide (i ≤ j)
abbrev gGt := gInt fun i j => decide (j < i)
abbrev gGe := gInt fun i j => decide (j ≤ i)
theorem od_lt : OpD X (compareOp .Lt) gLt := od_cmp op_lt
theorem od_le : OpD X (compareOp .LtE) gLe := od_cmp op_le
theorem od_gt : OpD X (compareOp .Gt) gGt := od_cmp op_gt
theorem od_ge : OpD X (compareOp .GtE) gGe := od_cmp op_ge
/-- plain data that == may look through -/
def okD (d : D) : Bool := plainD d && SeqAt.shaped (toP d)
def eqD (x y : D) : Bool := PyData.eqv (toP x) (toP y)
def gEq : D → D → Option D := fun x y => if okD x && okD y then some (.bl (eqD x y)) else none
def gNe : D → D → Option D := fun x y => if okD x && okD y then some (.bl (!eqD x y)) else none
theorem okD.dp {K : Fg} {F H : Hp} {v : V} {d : D} (r : RD K F v d) (l : Le F H) (h : okD d = true) : Dp K H v (toP d) ∧ SeqAt.shaped (toP d) = true := by
  unfold okD at h
  rw [Bool.and_eq_true] at h
  exact ⟨(r.mono l).dp h.1, h.2⟩
theorem od_eq (hu : X.A.units + 64 < cLine) : OpD X (compareOp .Eq) gEq := fun F d1 d2 r e => by
  unfold gEq at e
  split at e
  · rename_i h
    cases e
    rw [Bool.and_eq_true] at h
    refine OpR.imp (op_eqD hu) fun x y H Q ⟨l, r1, r2, q⟩ => ?_
    obtain ⟨a1, a2⟩ := okD.dp r1 l h.1
    obtain ⟨b1, b2⟩ := okD.dp r2 l h.2
    exact ⟨_, _, a1, b1, a2, b2, q _ F H (Gr.refl l) (.bl _)⟩
  · cases e
theorem od_ne (hu : X.A.units + 64 < cLine) : OpD X (compareOp .NotEq) gNe := fun F d1 d2 r e => by
  unfold gNe at e
  split at e
  · rename_i h
    cases e
    rw [Bool.and_eq_true] at h
    refine OpR.imp (op_neD hu) fun x y H Q ⟨l, r1, r2, q⟩ => ?_
    obtain ⟨a1, a2⟩ := okD.dp r1 l h.1
    obtain ⟨b1, b2⟩ := okD.dp r2 l h.2
    exact ⟨_, _, a1, b1, a2, b2, q _ F H (Gr.refl l) (.bl _)⟩
  · cases e
/-- is None -/
def isNon : D → Bool
  | .non => true
  | _ => false
def gIsN : D → D → Option D := fun x y => match y with | .non => some (.bl (isNon x)) | _ => none
def gNotN : D → D → Option D := fun x y => match y with | .non => some (.bl (!isNon x)) | _ => none
theorem RD.isNon {K : Fg} {F : Hp} {v : V} {d : D} (r : RD K F v d) : decide (v = .non) = DL.isNon d := by
  cases r <;> first | rfl | exact decide_eq_false (fun z => nomatch z)
theorem od_isN : OpD X (compareOp .Is) gIsN := fun F d1 d2 r e => by
  unfold gIsN at e
  split at e
  · cases e
    refine OpR.imp op_isN fun x y H Q ⟨l, r1, r2, q⟩ => ?_
    cases r2
    refine ⟨rfl, ?_⟩
    rw [RD.isNon r1]
    exact q _ F H (Gr.refl l) (.bl _)
  · cases e
theorem od_notN : OpD X (compareOp .IsNot) gNotN := fun F d1 d2 r e => by
  unfold gNotN at e
  split at e
  · cases e
    refine OpR.imp op_notN fun x y H Q ⟨l, r1, r2, q⟩ => ?_
    cases r2
    refine ⟨rfl, ?_⟩
    rw [RD.isNon r1]
    exact q _ F H (Gr.refl l) (.bl _)
  · cases e
/-- -x -/
def gNeg : D → Option D
  | .int i => some (.int (-i))
  | _ => none
theorem ud_neg : UnD X (unaryOp .USub) gNeg := fun F d1 r e => by
  unfold gNeg at e
  split at e
  · cases e
    intro pins s σ H x v Q I rx ⟨l, r1, q⟩
    cases r1
    exact un_neg pins s σ H _ v Q I rx ⟨_, rfl, q _ F H (Gr.refl l) (.int _)⟩
  · cases e
/-! ### several expressions -/
def tAF (K : Fg) (mg : Str → Option Value) (W : WX) (ω : List Sh) (F : Hp) (m : M (List D)) : TA := fun σ H Q =>
  ∃ G ρ, Sim K ω F G H ρ σ ∧ (m ρ).sat (fun ds ρ' => ∀ vs F' H', Le F F' → Sim K ω F' G H' ρ' σ → RDs K F' vs ds → Q vs H') (Zx K mg W ω F G σ)
def tA (K : Fg) (mg : Str → Option Value) (W : WX) (ω : List Sh) (m : M (List D)) : TA := fun σ H Q => ∃ F, tAF K mg W ω F m σ H Q
abbrev DA (X : Cx) (W : WX) (ω : List Sh) (es : List Expr) (m : M (List D)) : Prop := PA X es (tA X.K X.mg W ω m)
def consM (m : M D) (ms : M (List D)) : M (List D) := bindM m fun d => bindM ms fun ds => pureM (d :: ds)
def nilM : M (List D) := pureM []
theorem PA.imp {es : List Expr} {t t' : TA} (h : PA X es t) (k : ∀ σ H Q, t' σ H Q → t σ H Q) : PA X es t' := ⟨fun pos pins s σ H Q I q => h.run pos pins s σ H Q I (k σ H Q q)⟩
theorem da_nil : DA X W ω [] nilM := PA.imp pa_nil fun σ H Q ⟨F, G, ρ, S, q⟩ => q [] F H (Le.refl _) S .nil
/-- a first expression, then what hangs on its data -/
theorem tA_cons {m : M D} {k : D → M (List D)} {σ : L2.St} {H : Hp} {Q : List V → Hp → Prop} (h : tA X.K X.mg W ω (bindM m k) σ H Q) :
    tM X.K X.mg W ω .fz m σ H fun x H1 => ∃ d F1, RD X.K F1 x d ∧ tAF X.K X.mg W ω F1 (k d) σ H1 Q := by
  obtain ⟨F, G, ρ, S, h⟩ := h
  refine ⟨F, G, ρ, S, Res.sat_mono (Res.sat_bind h) (fun d ρ1 q v F1 H1 l S1 => ?_) fun _ _ z => z⟩
  obtain ⟨r, S2⟩ := S1.top
  exact ⟨d, F1, r, G, ρ1, S2, Res.sat_mono q (fun ds ρ' p vs F' H' l' S' => p vs F' H' (l.trans l') S') fun _ _ z => z.le l⟩
theorem da_cons {e : Expr} {es : List Expr} {m : M D} {ms : M (List D)} (h : DE X W ω e .fz m) (hs : DA X W ω es ms) (he : starEach (e :: es) X.env = (false, eval e X.env) :: starEach es X.env := by rfl) : DA X W ω (e :: es) (consM m ms) :=
  PA.imp (pa_cons h hs he) fun σ H Q q => by
    obtain ⟨F, q⟩ := tA_cons q
    refine ⟨F, tMF_mono q fun x H1 ⟨d, F1, r, G, ρ, S, q1⟩ => ⟨F1, G, ρ, S, ?_⟩⟩
    refine Res.sat_mono (Res.sat_bind q1) (fun ds ρ1 p vs F2 H2 l S2 rs => ?_) fun _ _ z => z
    exact p (x :: vs) F2 H2 l S2 (.cons (r.mono l) rs)
/-- f of several values -/
def CallD (X : Cx) (f : Value) (g : List D → Option D) : Prop :=
  ∀ (F : Hp) (ds : List D) (r : D), g ds = some r → CallR X f fun xs H Q => Le F H ∧ RDs X.K F xs ds ∧ ∀ z F' H', Gr F H F' H' → RD X.K F' z r → Q z H'
def appM (g : List D → Option D) (ms : M (List D)) : M D := bindM ms fun ds => liftO (g ds)
theorem tA_app {g : List D → Option D} {ms : M (List D)} {σ : L2.St} {H : Hp} {Q : VK} (h : tM X.K X.mg W ω .fz (appM g ms) σ H Q) :
    tA X.K X.mg W ω ms σ H fun xs H1 => ∃ F ds r, g ds = some r ∧ Le F H1 ∧ RDs X.K F xs ds ∧ ∀ z F' H', Gr F H1 F' H' → RD X.K F' z r → Q z H' := by
  obtain ⟨F, G, ρ, S, h⟩ := h
  refine ⟨F, G, ρ, S, Res.sat_mono (Res.sat_bind h) (fun ds ρ1 q vs F1 H1 l S1 rs => ?_) fun _ _ z => z⟩
  cases e : g ds with
  | none => rw [e] at q; exact q.elim
  | some r =>
    rw [e] at q
    exact ⟨F1, ds, r, e, S1.fH, rs, fun z F' H' g' rz => q z F' H' (l.trans g'.lf) ((S1.gr g').push rz)⟩
theorem de_callB {x : Str} {p : Pos} {e : Expr} {es : List Expr} {ms : M (List D)} {id : String} {g : List D → Option D} (hc : CallD X (.builtin id) g) (hg : Gl X x) (hm : X.mg x = none) (hv : bootBuiltins x = some (.builtin id)) (ha : DA X W ω (e :: es) ms)
    (hn : x ≠ "__name__" := by decide) (hdb : (x == ("__debug__" : Str)) = false := by decide) (he : starEach (e :: es) X.env = (false, eval e X.env) :: starEach es X.env := by rfl) (hpl : (backTo pos (starEach es X.env)).any (·.1) = false := by rfl) :
    DE X W ω (.Call (.Name x p) (e :: es) [] pos) .fz (appM g ms) := by
  refine ⟨fun pins s σ H Q I h => ?_⟩
  refine wpAny_Call_Name_kw (ld_blt I hg hm hv ?_ hn hdb)
  exact PyProof.Rows.callWith_builtin1 (thn (ha.run pos pins s σ H _ I (tA_app h)) fun us s1 ⟨vs, H1, I1, r1, F, ds, r, e, q1⟩ => hc F ds r e pins s1 σ H1 vs us Q I1 r1 q1) he hpl
theorem de_callTy {x : Str} {p : Pos} {e : Expr} {es : List Expr} {ms : M (List D)} {T : String} {g : List D → Option D} (hc : CallD X (.type T) g) (hg : Gl X x) (hm : X.mg x = none) (hv : bootBuiltins x = some (.type T)) (ha : DA X W ω (e :: es) ms)
    (hn : x ≠ "__name__" := by decide) (hdb : (x == ("__debug__" : Str)) = false := by decide) (he : starEach (e :: es) X.env = (false, eval e X.env) :: starEach es X.env := by rfl) (hpl : (backTo pos (starEach es X.env)).any (·.1) = false := by rfl) :
    DE X W ω (.Call (.Name x p) (e :: es) [] pos) .fz (appM g ms) := by
  refine ⟨fun pins s σ H Q I h => ?_⟩
  refine wpAny_Call_Name_kw (ld_blt I hg hm hv ?_ hn hdb)
  exact PyProof.Rows.callWith_type1 (thn (ha.run pos pins s σ H _ I (tA_app h)) fun us s1 ⟨vs, H1, I1, r1, F, ds, r, e, q1⟩ => hc F ds r e pins s1 σ H1 vs us Q I1 r1 q1) he hpl
/-! ### displays -/
def gTup (ds : List D) : Option D := if ds.length ≤ sizeLine then some (.tup ds) else none
def gLst (ds : List D) : Option D := if ds.length ≤ sizeLine then some (.lst ds) else none
theorem de_tup {es : List Expr} {ms : M (List D)} {k} (ha : DA X W ω es ms) : DE X W ω (.Tuple es k pos) .fz (appM gTup ms) :=
  PE.imp (pe_tup ha) fun σ H Q q => by
    refine (fun (⟨F, G, ρ, S, q⟩ : tA X.K X.mg W ω ms σ H _) => (⟨F, G, ρ, S, Res.sat_mono q (fun ds ρ' p vs F' H' l S' rs => ?_) fun _ _ z => z⟩ : tA X.K X.mg W ω ms σ H _)) (tA_app q)
    obtain ⟨F2, ds2, r, e, l2, rs2, k2⟩ := p vs F' H' l S' rs
    unfold gTup at e
    split at e
    · rename_i h
      cases e
      refine ⟨by rw [rs2.length]; exact h, fun pp np => k2 _ _ _ (Gr.one l2 np) (.tup upd_same (rs2.mono (Le.upd (l2.none np))))⟩
    · cases e
theorem de_lst {es : List Expr} {ms : M (List D)} (ha : DA X W ω es ms) : DE X W ω (.List es pos) .fz (appM gLst ms) :=
  PE.imp (pe_lst ha) fun σ H Q q => by
    refine (fun (⟨F, G, ρ, S, q⟩ : tA X.K X.mg W ω ms σ H _) => (⟨F, G, ρ, S, Res.sat_mono q (fun ds ρ' p vs F' H' l S' rs => ?_) fun _ _ z => z⟩ : tA X.K X.mg W ω ms σ H _)) (tA_app q)
    obtain ⟨F2, ds2, r, e, l2, rs2, k2⟩ := p vs F' H' l S' rs
    unfold gLst at e
    split at e
    · rename_i h
      cases e
      refine ⟨by rw [rs2.length]; exact h, fun pp np => k2 _ _ _ (Gr.one l2 np) (.lst upd_same (rs2.mono (Le.upd (l2.none np))))⟩
    · cases e
/-! ### subscripts, slices -/
def gIx : D → D → Option D
  | .lst xs, .int i => atI xs i
  | .tup xs, .int i => atI xs i
  | .ktup xs, .int i => atI xs i
  | .str z, .int i => if z.length ≤ sizeLine then (atI z.cps.toList i).map fun c => .str ⟨#[c]⟩ else none
  | _, _ => none
theorem RDs.at {K : Fg} {F : Hp} {vs : List V} {ds : List D} {i : Int} {d : D} (h : RDs K F vs ds) (e : atI ds i = some d) : ∃ v, atI vs i = some v ∧ RD K F v d := by
  unfold atI at e ⊢
  rw [h.length]
  cases q : ixN ds.length i with
  | none => rw [q] at e; cases e
  | some j => rw [q] at e; exact h.get e
theorem de_ix (ha : DE X W ω a .fz m1) (hb : DE X W ω b .fz m2) (hs : PlainIx b) : DE X W ω (.Subscript a b pos) .fz (bin gIx m1 m2) := by
  refine PE.imp (pe_ix ix_seq ha hb hs) fun σ H Q q => ?_
  obtain ⟨F, q⟩ := tM_bind q
  refine ⟨F, tMF_mono q fun x H1 ⟨d1, F1, r1, q1⟩ => ⟨F1, tMF_mono (tMF_bind q1) fun y H2 ⟨d2, F2, l2, r2, q2⟩ => ?_⟩⟩
  obtain ⟨l, r, e, k⟩ := tMF_lift q2
  unfold gIx at e
  split at e
  · cases r2
    cases r1 with
    | lst h1 s1 =>
      obtain ⟨v, ev, rv⟩ := (s1.mono l2).at e
      exact .inl ⟨_, _, _, v, rfl, rfl, SqL.of (l _ _ (l2 _ _ h1)), ev, k _ _ _ (Gr.refl l) rv⟩
  · cases r2
    cases r1 with
    | tup h1 s1 =>
      obtain ⟨v, ev, rv⟩ := (s1.mono l2).at e
      exact .inr (.inl ⟨_, _, _, v, rfl, rfl, SqT.of (l _ _ (l2 _ _ h1)), ev, k _ _ _ (Gr.refl l) rv⟩)
  · cases r2
    cases r1 with
    | ktup h1 s1 =>
      obtain ⟨v, ev, rv⟩ := (s1.mono l2).at e
      exact .inr (.inl ⟨_, _, _, v, rfl, rfl, SqT.mono (l2.trans l) h1, ev, k _ _ _ (Gr.refl l) rv⟩)
  · split at e
    · rename_i i hz
      cases r2; cases r1
      cases q : atI _ _ with
      | none => rw [q] at e; cases e
      | some c =>
        rw [q] at e
        cases e
        exact .inr (.inr ⟨_, _, c, rfl, rfl, hz, q, k _ _ _ (Gr.refl l) (.str _)⟩)
    · cases e
  · cases e
end
end DL
/-! DL: what is owned, one name at a time; tests; statements. -/
namespace DL
open PySem PySem.Spec PyProof.Rows L2
section
variable {K : Fg} {ω : List Sh} {F F' G H H' : Hp} {ρ : Rho} {σ : L2.St} {sh : Sh} {v : V} {d : D}
/-- one name's data apart from the others', which may be put back changed -/
theorem OwnL.split {fp : List Addr} (o : OwnL K F H ω σ ρ fp) : ∀ {i : Nat} {s : Sh} {d : D}, ω[i]? = some s → ρ[i]? = some (some d) →
    ∃ (v : V) (fi fo : List Addr), σ[i]? = some (some v) ∧ Own K F H s v d fi ∧ (∀ b ∈ fi, b ∉ fo) ∧ (∀ b, b ∈ fp ↔ b ∈ fi ∨ b ∈ fo) ∧
      ∀ F' H' d' fi', Le F F' → (∀ b ∈ fo, ∀ u, H b = some u → H' b = some u) → Own K F' H' s v d' fi' → (∀ b ∈ fi', b ∉ fo) →
        ∃ fp', OwnL K F' H' ω σ (ρ.set i (some d')) fp' ∧ ∀ b, b ∈ fp' ↔ b ∈ fi' ∨ b ∈ fo := by
  induction o with
  | nil => intro i s d h; simp at h
  | @un s0 x ω σ ρ fp o ih =>
    intro i s d h1 h2
    cases i with
    | zero => simp at h2
    | succ i =>
      obtain ⟨v, fi, fo, e, w, n, m, k⟩ := ih (i := i) (by simpa using h1) (by simpa using h2)
      refine ⟨v, fi, fo, by simpa using e, w, n, m, fun F' H' d' fi' l q w' n' => ?_⟩
      obtain ⟨fp', o', m'⟩ := k F' H' d' fi' l q w' n'
      exact ⟨fp', .un o', m'⟩
  | @bd s0 v0 d0 ω σ ρ f1 f2 w0 o n0 ih =>
    intro i s d h1 h2
    cases i with
    | zero =>
      simp at h1 h2
      subst h1 h2
      refine ⟨v0, f1, f2, rfl, w0, n0, fun b => List.mem_append, fun F' H' d' fi' l q w' n' => ⟨fi' ++ f2, .bd w' (o.mono l q) n', fun b => List.mem_append⟩⟩
    | succ i =>
      obtain ⟨v, fi, fo, e, w, n, m, k⟩ := ih (i := i) (by simpa using h1) (by simpa using h2)
      refine ⟨v, fi, f1 ++ fo, by simpa using e, w, fun b hb z => ?_, fun b => ?_, fun F' H' d' fi' l q w' n' => ?_⟩
      · rcases List.mem_append.mp z with z | z
        · exact n0 b z ((m b).mpr (.inl hb))
        · exact n b hb z
      · rw [List.mem_append, List.mem_append, m b]
        constructor
        · rintro (z | z | z)
          · exact .inr (.inl z)
          · exact .inl z
          · exact .inr (.inr z)
        · rintro (z | z | z)
          · exact .inr (.inl z)
          · exact .inl z
          · exact .inr (.inr z)
      · obtain ⟨fp', o', m'⟩ := k F' H' d' fi' l (fun b hb => q b (List.mem_append_right _ hb)) w' fun b hb z => n' b hb (List.mem_append_right _ z)
        refine ⟨f1 ++ fp', .bd (w0.mono l fun b hb => q b (List.mem_append_left _ hb)) o' fun b hb z => ?_, fun b => ?_⟩
        · rcases (m' b).mp z with z | z
          · exact n' b z (List.mem_append_left _ hb)
          · exact n0 b hb ((m b).mpr (.inr z))
        · rw [List.mem_append, List.mem_append, m' b]
          constructor
          · rintro (z | z | z)
            · exact .inr (.inl z)
            · exact .inl z
            · exact .inr (.inr z)
          · rintro (z | z | z)
            · exact .inr (.inl z)
            · exact .inl z
            · exact .inr (.inr z)
/-- the shape without its pin -/
def coreSh : Sh → Sh
  | .pin _ s => coreSh s
  | s => s
theorem Own.core {K : Fg} {F H : Hp} {d : D} {fi : List Addr} : ∀ {s : Sh} {v : V}, Own K F H s v d fi → Own K F H (coreSh s) v d fi
  | .fz, _, w => w
  | .lst _, _, w => w
  | .dct _, _, w => w
  | .ins _, _, w => w
  | .pin a s, _, w => by cases w with | pin w => exact Own.core (s := s) w
theorem Own.uncore {a : Addr} {d' : D} {fi fi' : List Addr} {F' H' : Hp} : ∀ {s : Sh}, Own K F H s (.ref a) d fi → Own K F' H' (coreSh s) (.ref a) d' fi' → Own K F' H' s (.ref a) d' fi'
  | .fz, _, w => w
  | .lst _, _, w => w
  | .dct _, _, w => w
  | .ins _, _, w => w
  | .pin _ s, q, w => by cases q with | pin q => exact .pin (Own.uncore (s := s) q w)
/-- a list that a name owns: it may be changed -/
theorem Sim.lst (S : Sim K ω F G H ρ σ) {i : Nat} {s : Sh} {ds : List D} (h1 : ω[i]? = some s) (hs : coreSh s = .lst .fz) (h2 : ρ[i]? = some (some (.lst ds))) :
    ∃ a xs, σ[i]? = some (some (.ref a)) ∧ H a = some (.lst xs) ∧ RDs K F xs ds ∧
      ∀ F' H' xs' ds', Gr F H F' H' → RDs K F' xs' ds' → Sim K ω F' G (upd H' a (.lst xs')) (ρ.set i (some (.lst ds'))) σ := by
  obtain ⟨⟨fp, o, n⟩, l, g, dj⟩ := S
  obtain ⟨v, fi, fo, e, w, nn, m, k⟩ := o.split h1 h2
  have wc := w.core
  rw [hs] at wc
  cases wc with
  | @lst _ a xs _ fq ha r na =>
    obtain ⟨rs, e0⟩ := r.fz_rds
    subst e0
    refine ⟨a, xs, e, ha, rs, fun F' H' xs' ds' gr rs' => ?_⟩
    have fa : F a = none := (n a ((m a).mpr (.inl (List.mem_cons_self)))).1
    have ga : G a = none := (n a ((m a).mpr (.inl (List.mem_cons_self)))).2
    have fa' : F' a = none := gr.new a fa (by rw [ha]; exact fun z => nomatch z) (fun xs z => by rw [ha] at z; cases z)
    obtain ⟨fp', o', m'⟩ := k F' (upd H' a (.lst xs')) (.lst ds') [a] gr.lf (fun b hb u q => by
      rw [upd_ne (fun z => nn a (List.mem_cons_self) (by rw [← z]; exact hb))]; exact gr.lh b u q)
      (w.uncore (by rw [hs]; exact .lst upd_same (Owns.of_rds rs') (fun z => by cases z))) (fun b hb => nn b hb)
    refine ⟨⟨fp', o', fun b hb => ?_⟩, fun b u q => ?_, fun b u q => ?_, ⟨fun b q => ?_, dj.2⟩⟩
    · rcases (m' b).mp hb with z | z
      · have : b = a := by simpa using z
        subst this; exact ⟨fa', ga⟩
      · have q := n b ((m b).mpr (.inr z))
        refine ⟨gr.new b q.1 (fun y => ?_) (o.nt b ((m b).mpr (.inr z))), q.2⟩
        obtain ⟨u, hu⟩ := o.live b ((m b).mpr (.inr z))
        rw [hu] at y; cases y
    · rw [upd_ne (ne_of_none q fa')]; exact gr.fh b u q
    · exact (g.trans gr.lh).upd ga (gr.lh _ _ ha) trivial b u q
    · exact gr.new b (dj.1 b q) (fun y => g.live q y) (dj.nt g q)
/-- slot i is set to what reads as frozen data, or to nothing known -/
theorem OwnL.put {fp : List Addr} {x : Option V} {y : Option D} (o : OwnL K F H ω σ ρ fp) (r : y = none ∨ ∃ v d, x = some v ∧ y = some d ∧ RD K F v d) : ∀ {i : Nat}, ω[i]? = some .fz → OwnL K F H ω (σ.set i x) (ρ.set i y) fp := by
  induction o with
  | nil => intro i h; simp at h
  | @un s0 x0 ω σ ρ fp o ih =>
    intro i h
    cases i with
    | zero =>
      simp at h
      subst h
      rcases r with rfl | ⟨v, d, rfl, rfl, r⟩
      · exact .un o
      · have := OwnL.bd (.fz r) o (fun _ m => by cases m)
        simpa using this
    | succ i => exact .un (ih (by simpa using h))
  | @bd s0 v0 d0 ω σ ρ f1 f2 w0 o n0 ih =>
    intro i h
    cases i with
    | zero =>
      simp at h
      subst h
      cases w0 with
      | fz _ =>
        rcases r with rfl | ⟨v, d, rfl, rfl, r⟩
        · exact .un o
        · exact .bd (.fz r) o (fun _ m => by cases m)
    | succ i => exact .bd w0 (ih (by simpa using h)) n0
theorem Sim.put {x : Option V} {y : Option D} (S : Sim K ω F G H ρ σ) {i : Nat} (h : ω[i]? = some .fz) (r : y = none ∨ ∃ v d, x = some v ∧ y = some d ∧ RD K F v d) : Sim K ω F G H (ρ.set i y) (σ.set i x) := by
  obtain ⟨⟨fp, o, n⟩, a, b, dj⟩ := S
  exact ⟨⟨fp, o.put r h, n⟩, a, b, dj⟩
end
/-! ### tests -/
section
variable {X : Cx} {W : WX} {ω : List Sh} {pos : Pos} {a b c : Expr} {m1 m2 m3 : M D}
def tTF (K : Fg) (mg : Str → Option Value) (W : WX) (ω : List Sh) (F : Hp) (m : M Bool) : TT := fun σ H Q =>
  ∃ G ρ, Sim K ω F G H ρ σ ∧ (m ρ).sat (fun b ρ' => ∀ F' H', Le F F' → Sim K ω F' G H' ρ' σ → Q b H') (Zx K mg W ω F G σ)
def tT (K : Fg) (mg : Str → Option Value) (W : WX) (ω : List Sh) (m : M Bool) : TT := fun σ H Q => ∃ F, tTF K mg W ω F m σ H Q
abbrev DT (X : Cx) (W : WX) (ω : List Sh) (e : Expr) (m : M Bool) : Prop := PT X e (tT X.K X.mg W ω m)
abbrev DW (X : Cx) (W : WX) (ω : List Sh) (e : Expr) (m : M Bool) : Prop := PW X e (tT X.K X.mg W ω m)
theorem PT.imp {e : Expr} {t t' : TT} (h : PT X e t) (k : ∀ σ H Q, t' σ H Q → t σ H Q) : PT X e t' := ⟨fun pins s σ H Q I q => h.run pins s σ H Q I (k σ H Q q)⟩
theorem PW.imp {e : Expr} {t t' : TT} (h : PW X e t) (k : ∀ σ H Q, t' σ H Q → t σ H Q) : PW X e t' := ⟨fun w pins s σ H Q I q => h.run w pins s σ H Q I (k σ H Q q)⟩
/-- truth by data -/
def truD : D → Option Bool
  | .non => some false
  | .bl b => some b
  | .int i => some (i != 0)
  | .str y => if y.length ≤ sizeLine then some ((y.length : Int) != 0) else none
  | .lst xs => some (!xs.isEmpty)
  | .tup xs => some (!xs.isEmpty)
  | .ktup xs => some (!xs.isEmpty)
  | .dK xs => some (!xs.isEmpty)
  | _ => none
theorem RDs.isEmpty {K : Fg} {F : Hp} {vs : List V} {ds : List D} (h : RDs K F vs ds) : vs.isEmpty = ds.isEmpty := by
  cases h <;> rfl
theorem truD.ok {K : Fg} {F H : Hp} {v : V} {d : D} {k : Bool} (r : RD K F v d) (l : Le F H) (e : truD d = some k) : TruV K v H k := by
  unfold truD at e
  split at e
  · cases e; cases r; rfl
  · cases e; cases r; rfl
  · cases e; cases r; rfl
  · split at e
    · rename_i h; cases e; cases r; exact ⟨h, rfl⟩
    · cases e
  · cases e
    cases r with
    | lst h s => exact .inl ⟨_, SqL.of (l _ _ h), by rw [s.isEmpty]⟩
  · cases e
    cases r with
    | tup h s => exact .inr (.inl ⟨_, SqT.of (l _ _ h), by rw [s.isEmpty]⟩)
  · cases e
    cases r with
    | ktup h s => exact .inr (.inl ⟨_, SqT.mono l h, by rw [s.isEmpty]⟩)
  · cases e
    cases r with
    | dK h e s =>
      refine .inr (.inr ⟨_, l _ _ h, ?_⟩)
      rename_i kvs
      cases kvs with
      | nil => cases ‹List (Key × D)› with
        | nil => rfl
        | cons _ _ => simp at e
      | cons _ _ => cases ‹List (Key × D)› with
        | nil => simp at e
        | cons _ _ => rfl
  · cases e
def truM (m : M D) : M Bool := bindM m fun d => liftO (truD d)
/-- a first expression, then a test -/
theorem tT_bind {m : M D} {k : D → M Bool} {σ : L2.St} {H : Hp} {Q : Bool → Hp → Prop} (h : tT X.K X.mg W ω (bindM m k) σ H Q) :
    tM X.K X.mg W ω .fz m σ H fun x H1 => ∃ d F1, RD X.K F1 x d ∧ tTF X.K X.mg W ω F1 (k d) σ H1 Q := by
  obtain ⟨F, G, ρ, S, h⟩ := h
  refine ⟨F, G, ρ, S, Res.sat_mono (Res.sat_bind h) (fun d ρ1 q v F1 H1 l S1 => ?_) fun _ _ z => z⟩
  obtain ⟨r, S2⟩ := S1.top
  exact ⟨d, F1, r, G, ρ1, S2, Res.sat_mono q (fun ds ρ' p F' H' l' S' => p F' H' (l.trans l') S') fun _ _ z => z.le l⟩
theorem tTF_bindT {F : Hp} {m : M Bool} {k : Bool → M Bool} {σ : L2.St} {H : Hp} {Q : Bool → Hp → Prop} (h : tTF X.K X.mg W ω F (bindM m k) σ H Q) :
    tTF X.K X.mg W ω F m σ H fun x H1 => ∃ F1, tTF X.K X.mg W ω F1 (k x) σ H1 Q := by
  obtain ⟨G, ρ, S, h⟩ := h
  refine ⟨G, ρ, S, Res.sat_mono (Res.sat_bind h) (fun d ρ1 q F1 H1 l S1 => ?_) fun _ _ z => z⟩
  exact ⟨F1, G, ρ1, S1, Res.sat_mono q (fun ds ρ' p F' H' l' S' => p F' H' (l.trans l') S') fun _ _ z => z.le l⟩
theorem tTF_pure {F : Hp} {b : Bool} {σ : L2.St} {H : Hp} {Q : Bool → Hp → Prop} (h : tTF X.K X.mg W ω F (pureM b) σ H Q) : Q b H := by
  obtain ⟨G, ρ, S, h⟩ := h
  exact h F H (Le.refl _) S
theorem tTF_lift {F : Hp} {o : Option Bool} {σ : L2.St} {H : Hp} {Q : Bool → Hp → Prop} (h : tTF X.K X.mg W ω F (liftO o) σ H Q) : Le F H ∧ ∃ b, o = some b ∧ Q b H := by
  obtain ⟨G, ρ, S, h⟩ := h
  cases o with
  | none => exact h.elim
  | some b => exact ⟨S.fH, b, rfl, h F H (Le.refl _) S⟩
theorem dt_truth (ha : DE X W ω a .fz m1) (he : ∀ whole, isTrue a X.env whole = (do let v ← whole; standAt a.pos; holding [v] (truthy v)) := by intro _; rfl) : DT X W ω a (truM m1) :=
  PT.imp (pt_truth ha he) fun σ H Q q => by
    obtain ⟨F, q⟩ := tT_bind q
    refine ⟨F, tMF_mono q fun x H1 ⟨d, F1, r, q1⟩ => ?_⟩
    obtain ⟨l, b, e, q2⟩ := tTF_lift q1
    exact ⟨b, truD.ok r l e, q2⟩
/-- a comparison as a test -/
theorem dt_cmp {op : CmpOp} {g : D → D → Option D} (ho : OpD X (compareOp op) g) (ha : DE X W ω a .fz m1) (hb : DE X W ω b .fz m2) (hm : behindInMarks op b = false) : DT X W ω (.Compare a [op] [b] pos) (truM (bin g m1 m2)) := by
  refine ⟨fun pins s σ H Q I h => ?_⟩
  obtain ⟨F, q⟩ := tbin ho (tT_bind h)
  refine wpAny_isTrue_Compare1 (thn (ha.run pins s σ H _ I ⟨F, q⟩) fun v s1 ⟨x, H1, I1, r1, q1⟩ => thn (hb.run pins s1 σ H1 _ I1 q1) fun u s2 ⟨y, H2, I2, r2, F2, d1, d2, r, e, q2⟩ =>
    thn (ho F2 d1 d2 r e pins s2 σ H2 x y v u _ I2 r1 r2 q2) fun c s3 ⟨z, H3, I3, r3, d, F3, rd, q3⟩ => ?_) hm
  obtain ⟨l, k, e2, q4⟩ := tTF_lift q3
  exact tru_ok pins s3 σ H3 z c Q I3 r3 ⟨k, truD.ok rd l e2, q4⟩
def notT (m : M Bool) : M Bool := bindM m fun b => pureM (!b)
theorem dt_not {m : M Bool} (ha : DT X W ω a m) : DT X W ω (.UnaryOp .Not a pos) (notT m) := by
  refine PT.imp (pt_not ha) fun σ H Q ⟨F, q⟩ => ⟨F, ?_⟩
  obtain ⟨G, ρ, S, h⟩ := tTF_bindT q
  exact ⟨G, ρ, S, Res.sat_mono h (fun b ρ' p F' H' l S' => let ⟨F1, q⟩ := p F' H' l S'; tTF_pure q) fun _ _ z => z⟩
def andT (m k : M Bool) : M Bool := bindM m fun b => if b = true then k else pureM false
def orT (m k : M Bool) : M Bool := bindM m fun b => if b = true then pureM true else k
theorem dw_and1 {m : M Bool} (ha : DT X W ω a m) : DW X W ω (.BoolOp .And [a] pos) m := pw_and1 ha
theorem dw_or1 {m : M Bool} (ha : DT X W ω a m) : DW X W ω (.BoolOp .Or [a] pos) m := pw_or1 ha
theorem dw_and {rest : List Expr} {m k : M Bool} (ha : DT X W ω a m) (hb : DW X W ω (.BoolOp .And (b :: rest) pos) k) : DW X W ω (.BoolOp .And (a :: b :: rest) pos) (andT m k) :=
  PW.imp (pw_and ha hb) fun σ H Q ⟨F, q⟩ => by
    obtain ⟨G, ρ, S, h⟩ := tTF_bindT q
    refine ⟨F, G, ρ, S, Res.sat_mono h (fun b ρ' p F' H' l S' => ?_) fun _ _ z => z⟩
    obtain ⟨F1, q⟩ := p F' H' l S'
    cases b with
    | true => rw [if_pos rfl] at q ⊢; exact ⟨F1, q⟩
    | false => rw [if_neg Bool.false_ne_true] at q ⊢; exact tTF_pure q
theorem dw_or {rest : List Expr} {m k : M Bool} (ha : DT X W ω a m) (hb : DW X W ω (.BoolOp .Or (b :: rest) pos) k) : DW X W ω (.BoolOp .Or (a :: b :: rest) pos) (orT m k) :=
  PW.imp (pw_or ha hb) fun σ H Q ⟨F, q⟩ => by
    obtain ⟨G, ρ, S, h⟩ := tTF_bindT q
    refine ⟨F, G, ρ, S, Res.sat_mono h (fun b ρ' p F' H' l S' => ?_) fun _ _ z => z⟩
    obtain ⟨F1, q⟩ := p F' H' l S'
    cases b with
    | true => rw [if_pos rfl] at q ⊢; exact tTF_pure q
    | false => rw [if_neg Bool.false_ne_true] at q ⊢; exact ⟨F1, q⟩
theorem DW.dt {e : Expr} {m : M Bool} (h : DW X W ω e m) : DT X W ω e m := h.pt
/-! ### as values -/
def notM (m : M D) : M D := bindM m fun d => liftO ((truD d).map fun k => .bl !k)
theorem de_not (ha : DE X W ω a .fz m1) : DE X W ω (.UnaryOp .Not a pos) .fz (notM m1) := by
  refine ⟨fun pins s σ H Q I h => ?_⟩
  refine UnaryOp_ (thn (ha.run pins s σ H _ I (tM_bind h)) fun v s1 ⟨x, H1, I1, r1, d, F1, rd, q1⟩ => ?_)
  obtain ⟨l, r, e, k⟩ := tMF_lift q1
  cases t : truD d with
  | none => rw [t] at e; cases e
  | some c =>
    rw [t] at e
    cases e
    exact not_of (thn (tru_ok pins s1 σ H1 x v (fun b H2 => b = c ∧ H2 = H1) I1 r1 ⟨c, truD.ok rd l t, rfl, rfl⟩) fun b s2 ⟨H2, I2, e1, e2⟩ => by
      subst e1 e2
      exact ⟨.bl _, H2, I2, rfl, k _ F1 H2 (Gr.refl l) (.bl _)⟩)
def ifM {α : Type} (c : M Bool) (t e : M α) : M α := bindM c fun b => if b = true then t else e
theorem tMF_bindT {F : Hp} {sh : Sh} {m : M Bool} {k : Bool → M D} {σ : L2.St} {H : Hp} {Q : VK} (h : tMF X.K X.mg W ω sh F (bindM m k) σ H Q) :
    tTF X.K X.mg W ω F m σ H fun x H1 => ∃ F1, tMF X.K X.mg W ω sh F1 (k x) σ H1 Q := by
  obtain ⟨G, ρ, S, h⟩ := h
  refine ⟨G, ρ, S, Res.sat_mono (Res.sat_bind h) (fun d ρ1 q F1 H1 l S1 => ?_) fun _ _ z => z⟩
  exact ⟨F1, G, ρ1, S1, Res.sat_mono q (fun ds ρ' p v F' H' l' S' => p v F' H' (l.trans l') S') fun _ _ z => z.le l⟩
theorem de_if {sh : Sh} {m : M Bool} (hc : DT X W ω c m) (ha : DE X W ω a sh m1) (hb : DE X W ω b sh m2) : DE X W ω (.IfExp c a b pos) sh (ifM m m1 m2) :=
  PE.imp (pe_ifExp hc ha hb) fun σ H Q ⟨F, q⟩ => by
    obtain ⟨G, ρ, S, h⟩ := tMF_bindT q
    refine ⟨F, G, ρ, S, Res.sat_mono h (fun b ρ' p F' H' l S' => ?_) fun _ _ z => z⟩
    obtain ⟨F1, q⟩ := p F' H' l S'
    cases b with
    | true => rw [if_pos rfl] at q ⊢; exact ⟨F1, q⟩
    | false => rw [if_neg Bool.false_ne_true] at q ⊢; exact ⟨F1, q⟩
/-- a and b, a or b, by truth -/
def andM (m k : M D) : M D := bindM m fun d => bindM (liftO (truD d)) fun t => if t = true then k else pureM d
def orM (m k : M D) : M D := bindM m fun d => bindM (liftO (truD d)) fun t => if t = true then pureM d else k
theorem de_one {op} {sh : Sh} (h : DE X W ω a sh m1) : DE X W ω (.BoolOp op [a] pos) sh m1 := pe_one h
theorem tMF_liftB {F : Hp} {sh : Sh} {o : Option Bool} {k : Bool → M D} {σ : L2.St} {H : Hp} {Q : VK} (h : tMF X.K X.mg W ω sh F (bindM (liftO o) k) σ H Q) : Le F H ∧ ∃ b, o = some b ∧ tMF X.K X.mg W ω sh F (k b) σ H Q := by
  obtain ⟨G, ρ, S, h⟩ := h
  cases o with
  | none => exact h.elim
  | some b => exact ⟨S.fH, b, rfl, G, ρ, S, h⟩
theorem de_and {rest : List Expr} (ha : DE X W ω a .fz m1) (hb : DE X W ω (.BoolOp .And (b :: rest) pos) .fz m2) : DE X W ω (.BoolOp .And (a :: b :: rest) pos) .fz (andM m1 m2) := by
  refine ⟨fun pins s σ H Q I h => ?_⟩
  refine BoolOp_and (thn (ha.run pins s σ H _ I (tM_bind h)) fun v s1 ⟨x, H1, I1, r1, d, F1, rd, q1⟩ => ?_)
  obtain ⟨l, t, e, q2⟩ := tMF_liftB q1
  refine thn (tru_ok pins s1 σ H1 x v (fun b H2 => b = t ∧ H2 = H1) I1 r1 ⟨t, truD.ok rd l e, rfl, rfl⟩) fun b s2 ⟨H2, I2, e1, e2⟩ => ?_
  subst e1 e2
  cases b with
  | true => rw [if_pos rfl] at q2 ⊢; exact hb.run pins s2 σ H2 Q I2 ⟨F1, q2⟩
  | false =>
    rw [if_neg Bool.false_ne_true] at q2 ⊢
    obtain ⟨_, q3⟩ := tMF_ret q2
    exact ⟨x, H2, I2, r1, q3 x F1 H2 (Gr.refl l) rd⟩
theorem de_or {rest : List Expr} (ha : DE X W ω a .fz m1) (hb : DE X W ω (.BoolOp .Or (b :: rest) pos) .fz m2) : DE X W ω (.BoolOp .Or (a :: b :: rest) pos) .fz (orM m1 m2) := by
  refine ⟨fun pins s σ H Q I h => ?_⟩
  refine BoolOp_or (thn (ha.run pins s σ H _ I (tM_bind h)) fun v s1 ⟨x, H1, I1, r1, d, F1, rd, q1⟩ => ?_)
  obtain ⟨l, t, e, q2⟩ := tMF_liftB q1
  refine thn (tru_ok pins s1 σ H1 x v (fun b H2 => b = t ∧ H2 = H1) I1 r1 ⟨t, truD.ok rd l e, rfl, rfl⟩) fun b s2 ⟨H2, I2, e1, e2⟩ => ?_
  subst e1 e2
  cases b with
  | false => rw [if_neg Bool.false_ne_true] at q2 ⊢; exact hb.run pins s2 σ H2 Q I2 ⟨F1, q2⟩
  | true =>
    rw [if_pos rfl] at q2 ⊢
    obtain ⟨_, q3⟩ := tMF_ret q2
    exact ⟨x, H2, I2, r1, q3 x F1 H2 (Gr.refl l) rd⟩
end
end DL
/-! DL: statements. -/
namespace DL
open PySem PySem.Spec PyProof.Rows L2
/-- how a statement ends -/
inductive Fl where
  | nx | rt (d : D) | bk | ct
/-- what a def's own names must leave at its return: shs the parameters' shapes (those not fz are kept), at the entry's values -/
structure Rt where
  sh : Sh
  shs : List Sh
  ω : List Sh
  σ : L2.St
/-- a statement's surroundings: the wish for exceptions, the names' shapes there, the return, the names' shapes at a break or continue -/
structure Sx where
  W : WX
  ωe : List Sh
  R : Rt
  ωl : List Sh
/-- the kept parameters' data -/
def keep : List Sh → Rho → Rho
  | [], _ => []
  | .fz :: ss, ρ => none :: keep ss ρ.tail
  | _ :: ss, [] => none :: keep ss []
  | _ :: ss, x :: ρ => x :: keep ss ρ
inductive KeepOk : List Sh → List Sh → List Sh → L2.St → Prop
  | nil {ω : List Sh} : KeepOk [] ω [] []
  | fz {ss ω rs : List Sh} {τ : L2.St} {s r : Sh} {x : Option V} : KeepOk ss ω rs τ → KeepOk (.fz :: ss) (s :: ω) (r :: rs) (x :: τ)
  | pin {ss ω rs : List Sh} {τ : L2.St} {a : Addr} {e : Sh} : KeepOk ss ω rs τ → KeepOk (.lst e :: ss) (.pin a (.lst e) :: ω) (.pin a (.lst e) :: rs) (some (.ref a) :: τ)
  | pinD {ss ω rs : List Sh} {τ : L2.St} {a : Addr} {e : Sh} : KeepOk ss ω rs τ → KeepOk (.dct e :: ss) (.pin a (.dct e) :: ω) (.pin a (.dct e) :: rs) (some (.ref a) :: τ)
  | pinI {ss ω rs : List Sh} {τ : L2.St} {a : Addr} {e : List (Str × Sh)} : KeepOk ss ω rs τ → KeepOk (.ins e :: ss) (.pin a (.ins e) :: ω) (.pin a (.ins e) :: rs) (some (.ref a) :: τ)
theorem OwnL.keep {K : Fg} {F H : Hp} {shs ω rs : List Sh} {τ : L2.St} (k : KeepOk shs ω rs τ) : ∀ {σ : L2.St} {ρ : Rho} {fp : List Addr}, OwnL K F H ω σ ρ fp → ∃ fp', OwnL K F H rs τ (DL.keep shs ρ) fp' ∧ ∀ a ∈ fp', a ∈ fp := by
  induction k with
  | nil => intro σ ρ fp o; exact ⟨[], .nil, fun _ m => by cases m⟩
  | fz k ih =>
    intro σ ρ fp o
    cases o with
    | un o =>
      obtain ⟨fp', q, m⟩ := ih o
      exact ⟨fp', .un q, m⟩
    | bd x o n =>
      obtain ⟨fp', q, m⟩ := ih o
      exact ⟨fp', .un q, fun a z => List.mem_append_right _ (m a z)⟩
  | pin k ih =>
    intro σ ρ fp o
    cases o with
    | un o =>
      obtain ⟨fp', q, m⟩ := ih o
      exact ⟨fp', .un q, m⟩
    | bd x o n =>
      obtain ⟨fp', q, m⟩ := ih o
      cases x with
      | pin x => exact ⟨_, .bd (.pin x) q fun a z y => n a z (m a y), fun a z => List.mem_append.mpr ((List.mem_append.mp z).imp id (m a))⟩
  | pinD k ih =>
    intro σ ρ fp o
    cases o with
    | un o =>
      obtain ⟨fp', q, m⟩ := ih o
      exact ⟨fp', .un q, m⟩
    | bd x o n =>
      obtain ⟨fp', q, m⟩ := ih o
      cases x with
      | pin x => exact ⟨_, .bd (.pin x) q fun a z y => n a z (m a y), fun a z => List.mem_append.mpr ((List.mem_append.mp z).imp id (m a))⟩
  | pinI k ih =>
    intro σ ρ fp o
    cases o with
    | un o =>
      obtain ⟨fp', q, m⟩ := ih o
      exact ⟨fp', .un q, m⟩
    | bd x o n =>
      obtain ⟨fp', q, m⟩ := ih o
      cases x with
      | pin x => exact ⟨_, .bd (.pin x) q fun a z y => n a z (m a y), fun a z => List.mem_append.mpr ((List.mem_append.mp z).imp id (m a))⟩
def wantS (K : Fg) (C : Sx) (ω' : List Sh) (F G : Hp) (Dn : Ends) : Fl → Rho → Prop
  | .nx, ρ' => ∀ σ' F' H', Le F F' → Sim K ω' F' G H' ρ' σ' → Dn.nx σ' H'
  | .rt d, ρ' => ∀ v F' H', Le F F' → Sim K (C.R.sh :: C.R.ω) F' G H' (some d :: keep C.R.shs ρ') (some v :: C.R.σ) → Dn.rt v H'
  | .bk, ρ' => ∀ σ' F' H', Le F F' → Sim K C.ωl F' G H' ρ' σ' → Dn.bk σ' H'
  | .ct, ρ' => ∀ σ' F' H', Le F F' → Sim K C.ωl F' G H' ρ' σ' → Dn.ct σ' H'
def zS (K : Fg) (mg : Str → Option Value) (C : Sx) (F G : Hp) : Exn → Rho → Prop := fun e ρ' =>
  ∀ σ' F' H' cls dx, Le F F' → Sim K C.ωe F' G H' ρ' σ' → ExIs K mg F' H' e cls dx → C.W cls dx σ' H'
def tSF (K : Fg) (mg : Str → Option Value) (C : Sx) (ω ω' : List Sh) (F : Hp) (m : M Fl) : TS := fun Dn σ H =>
  ∃ G ρ, Sim K ω F G H ρ σ ∧ (m ρ).sat (wantS K C ω' F G Dn) (zS K mg C F G)
def tS (K : Fg) (mg : Str → Option Value) (C : Sx) (ω ω' : List Sh) (m : M Fl) : TS := fun Dn σ H => ∃ F, tSF K mg C ω ω' F m Dn σ H
abbrev DS (X : Cx) (C : Sx) (ω : List Sh) (st : Stmt) (ω' : List Sh) (m : M Fl) : Prop := PS X st (tS X.K X.mg C ω ω' m)
abbrev DSs (X : Cx) (C : Sx) (ω : List Sh) (st : List Stmt) (ω' : List Sh) (m : M Fl) : Prop := PSs X st (tS X.K X.mg C ω ω' m)
theorem PS.imp {X : Cx} {st : Stmt} {t t' : TS} (h : PS X st t) (k : ∀ D σ H, t' D σ H → t D σ H) : PS X st t' := ⟨fun pins s σ H D I q => h.run pins s σ H D I (k D σ H q)⟩
theorem PSs.imp {X : Cx} {st : List Stmt} {t t' : TS} (h : PSs X st t) (k : ∀ D σ H, t' D σ H → t D σ H) : PSs X st t' := ⟨fun pins s σ H D I q => h.run pins s σ H D I (k D σ H q)⟩
section
variable {K : Fg} {mg : Str → Option Value} {C : Sx} {ω ω' ω1 : List Sh} {F F1 G H H' : Hp} {ρ : Rho} {σ : L2.St} {Dn : Ends}
theorem wantS.le (l : Le F F1) : ∀ {fl : Fl} {ρ' : Rho}, wantS K C ω' F G Dn fl ρ' → wantS K C ω' F1 G Dn fl ρ'
  | .nx, _, h => fun σ' F' H' l' => h σ' F' H' (l.trans l')
  | .rt _, _, h => fun v F' H' l' => h v F' H' (l.trans l')
  | .bk, _, h => fun σ' F' H' l' => h σ' F' H' (l.trans l')
  | .ct, _, h => fun σ' F' H' l' => h σ' F' H' (l.trans l')
theorem zS.le (l : Le F F1) {e : Exn} {ρ' : Rho} (h : zS K mg C F G e ρ') : zS K mg C F1 G e ρ' := fun σ' F' H' cls dx l' => h σ' F' H' cls dx (l.trans l')
theorem ExIs.mono {e : Exn} {cls : Value} {dx : Option Addr} (l : Le F F1) (h : ExIs K mg F H e cls dx) : ExIs K mg F1 H e cls dx := by
  obtain ⟨c, a, b, z⟩ := h
  refine ⟨c, a, b, ?_⟩
  cases dx with
  | none => exact z
  | some d => obtain ⟨fs, x, y, w⟩ := z; exact ⟨fs, x, y, w.mono l⟩
/-- an exception of an expression is the statement's -/
theorem zS.zx (wk : Wk ω C.ωe) {e : Exn} {ρ' : Rho} (h : zS K mg C F G e ρ') : Zx K mg C.W ω F G σ e ρ' := fun F' H' cls dx l S x => by
  obtain ⟨F2, l2, S2⟩ := S.wk wk
  exact h σ F2 H' cls dx (l.trans l2) S2 (x.mono l2)
/-- an expression, then what hangs on its data -/
theorem tS_bind {sh : Sh} {m : M D} {k : D → M Fl} (wk : Wk ω C.ωe) (h : tS K mg C ω ω' (bindM m k) Dn σ H) :
    tM K mg C.W ω sh m σ H fun x H1 => ∃ d F1 G ρ1, Sim K (sh :: ω) F1 G H1 (some d :: ρ1) (some x :: σ) ∧ (k d ρ1).sat (wantS K C ω' F1 G Dn) (zS K mg C F1 G) := by
  obtain ⟨F, G, ρ, S, h⟩ := h
  exact ⟨F, G, ρ, S, Res.sat_mono (Res.sat_bind h) (fun d ρ1 q v F1 H1 l S1 => ⟨d, F1, G, ρ1, S1, Res.sat_mono q (fun _ _ z => z.le l) fun _ _ z => z.le l⟩) fun _ _ z => z.zx wk⟩
theorem tS_bindT {m : M Bool} {k : Bool → M Fl} (wk : Wk ω C.ωe) (h : tS K mg C ω ω' (bindM m k) Dn σ H) :
    tT K mg C.W ω m σ H fun x H1 => tS K mg C ω ω' (k x) Dn σ H1 := by
  obtain ⟨F, G, ρ, S, h⟩ := h
  exact ⟨F, G, ρ, S, Res.sat_mono (Res.sat_bind h) (fun d ρ1 q F1 H1 l S1 => ⟨F1, G, ρ1, S1, Res.sat_mono q (fun _ _ z => z.le l) fun _ _ z => z.le l⟩) fun _ _ z => z.zx wk⟩
end
section
variable {X : Cx} {C : Sx} {ω ω' ω1 : List Sh} {st : Stmt} {rest : List Stmt} {m : M D} {k : M Fl} {e : Expr} {sh : Sh} {pos : Pos}
/-! ### rows of statements -/
def nextM : M Fl := pureM .nx
def seqM (m k : M Fl) : M Fl := fun ρ => match m ρ with
  | .ok .nx ρ1 => k ρ1
  | r => r
theorem dss_nil : DSs X C ω [] ω nextM := PSs.imp pss_nil fun D σ H ⟨F, G, ρ, S, h⟩ => h σ F H (Le.refl _) S
theorem dss_one {m : M Fl} (h : DS X C ω st ω' m) : DSs X C ω [st] ω' m := pss_one h
theorem dss_cons {m k : M Fl} (h : DS X C ω st ω1 m) (hs : DSs X C ω1 rest ω' k) : DSs X C ω (st :: rest) ω' (seqM m k) :=
  PSs.imp (pss_cons h hs) fun D σ H ⟨F, G, ρ, S, q⟩ => by
    refine ⟨F, G, ρ, S, ?_⟩
    unfold seqM at q
    cases e : m ρ with
    | ok fl ρ1 =>
      cases fl with
      | nx =>
        rw [e] at q
        exact fun σ' F' H' l S' => ⟨F', G, ρ1, S', Res.sat_mono q (fun _ _ z => z.le l) fun _ _ z => z.le l⟩
      | rt d => rw [e] at q; exact q
      | bk => rw [e] at q; exact q
      | ct => rw [e] at q; exact q
    | exc x ρ1 => rw [e] at q; exact q
    | no => rw [e] at q; exact q
/-- what a name owns is frozen ahead of a row of statements -/
theorem dss_wk {m : M Fl} {sts : List Stmt} (w : Wk ω ω1) (h : DSs X C ω1 sts ω' m) : DSs X C ω sts ω' m :=
  PSs.imp h fun D σ H ⟨F, G, ρ, S, q⟩ => by
    obtain ⟨F1, l, S1⟩ := S.wk w
    exact ⟨F1, G, ρ, S1, Res.sat_mono q (fun _ _ z => z.le l) fun _ _ z => z.le l⟩
/-- .. behind it -/
theorem dss_wk' {m : M Fl} {sts : List Stmt} (h : DSs X C ω sts ω1 m) (w : Wk ω1 ω') : DSs X C ω sts ω' m :=
  PSs.imp h fun D σ H ⟨F, G, ρ, S, q⟩ => by
    refine ⟨F, G, ρ, S, Res.sat_mono q (fun fl ρ' z => ?_) fun _ _ z => z⟩
    cases fl with
    | nx =>
      refine fun σ' F' H' l S' => ?_
      obtain ⟨F2, l2, S2⟩ := S'.wk w
      exact z σ' F2 H' (l.trans l2) S2
    | rt d => exact z
    | bk => exact z
    | ct => exact z
/-- a block that does not fall through -/
theorem dss_any {m : M Fl} {sts : List Stmt} (h : DSs X C ω sts ω1 m) (n : ∀ ρ ρ', m ρ ≠ .ok .nx ρ') : DSs X C ω sts ω' m :=
  PSs.imp h fun D σ H ⟨F, G, ρ, S, q⟩ => by
    refine ⟨F, G, ρ, S, ?_⟩
    cases e : m ρ with
    | ok fl ρ1 =>
      rw [e] at q
      cases fl with
      | nx => exact absurd e (n _ _)
      | rt d => exact q
      | bk => exact q
      | ct => exact q
    | exc x ρ1 => rw [e] at q; exact q
    | no => rw [e] at q; exact q
/-! ### the statements -/
def setM (i : Nat) (m : M D) : M Fl := bindM m fun d ρ => .ok .nx (ρ.set i (some d))
theorem ds_set {i : Nat} {x : Str} {p' : Pos} (wk : Wk ω C.ωe) (hN : X.N.Nodup) (hi : X.N[i]? = some x) (hx : Loc X.env.scope x) (he : DE X C.W ω e sh m) (hs : swapsWith e (some (.Name x p')) pos.line X.env = pure false := by rfl)
    (hf : X.fn x = true ∨ X.env.scope.names.lookup x = some .local := by first | exact .inl rfl | exact .inr rfl | assumption) : DS X C ω (.Assign [.Name x p'] e pos) (ω.set i sh) (setM i m) :=
  PS.imp (ps_set hN hi hx he hs hf) fun D σ H q => by
    obtain ⟨F, q⟩ := tS_bind (sh := sh) wk q
    exact ⟨F, tMF_mono q fun x H1 ⟨d, F1, G, ρ1, S, z⟩ => z _ F1 H1 (Le.refl _) (S.set i)⟩
def retM (m : M D) : M Fl := bindM m fun d => pureM (.rt d)
theorem ds_ret (wk : Wk ω C.ωe) (ko : KeepOk C.R.shs ω C.R.ω C.R.σ) (he : DE X C.W ω e C.R.sh m) : DS X C ω (.Return (some e) pos) ω' (retM m) :=
  PS.imp (ps_ret he) fun D σ H q => by
    obtain ⟨F, q⟩ := tS_bind (sh := C.R.sh) wk q
    refine ⟨F, tMF_mono q fun x H1 ⟨d, F1, G, ρ1, S, z⟩ => z x F1 H1 (Le.refl _) ?_⟩
    obtain ⟨⟨fp, o, n⟩, a, b, dj⟩ := S
    cases o with
    | bd w o nn =>
      obtain ⟨fq, q, mm⟩ := o.keep ko
      exact ⟨⟨_, .bd w q fun a z y => nn a z (mm a y), fun a z => n a (List.mem_append.mpr ((List.mem_append.mp z).imp id (mm a)))⟩, a, b, dj⟩
def dropM (m : M D) : M Fl := bindM m fun _ => nextM
theorem ds_expr (wk : Wk ω C.ωe) (he : DE X C.W ω e .fz m) (hs : swapsWith e none pos.line X.env = pure false := by rfl) : DS X C ω (.Expr e pos) ω (dropM m) :=
  PS.imp (ps_expr he hs) fun D σ H q => by
    obtain ⟨F, q⟩ := tS_bind (sh := .fz) wk q
    exact ⟨F, tMF_mono q fun x H1 ⟨d, F1, G, ρ1, S, z⟩ => z σ F1 H1 (Le.refl _) S.top.2⟩
theorem ds_pass : DS X C ω (.Pass pos) ω nextM := PS.imp ps_pass fun D σ H ⟨F, G, ρ, S, h⟩ => h σ F H (Le.refl _) S
theorem ds_break : DS X C C.ωl (.Break pos) ω' (pureM .bk) := PS.imp ps_break fun D σ H ⟨F, G, ρ, S, h⟩ => h σ F H (Le.refl _) S
theorem ds_continue : DS X C C.ωl (.Continue pos) ω' (pureM .ct) := PS.imp ps_continue fun D σ H ⟨F, G, ρ, S, h⟩ => h σ F H (Le.refl _) S
/-- code that is not come to -/
theorem ds_never : DS X C ω st ω' failM := PS.imp ps_never fun D σ H ⟨F, G, ρ, S, h⟩ => h
theorem dss_never {sts : List Stmt} : DSs X C ω sts ω' failM := PSs.imp pss_never fun D σ H ⟨F, G, ρ, S, h⟩ => h
theorem ds_if {c : Expr} {a b : List Stmt} {mc : M Bool} {ma mb : M Fl} (wk : Wk ω C.ωe) (hc : DT X C.W ω c mc) (ha : DSs X C ω a ω' ma) (hb : DSs X C ω b ω' mb) : DS X C ω (.If c a b pos) ω' (ifM mc ma mb) :=
  PS.imp (ps_if hc ha hb) fun D σ H q => by
    obtain ⟨F, G, ρ, S, h⟩ := tS_bindT wk q
    refine ⟨F, G, ρ, S, Res.sat_mono h (fun b ρ' p F' H' l S' => ?_) fun _ _ z => z⟩
    have p := p F' H' l S'
    cases b with
    | true => exact p
    | false => exact p
/-! ### targets -/
abbrev Tg := D → Rho → Option Rho
abbrev Tgs := List D → Rho → Option Rho
/-- only the slots of vs are touched -/
def Tch (vs : List Nat) (σ σ' : L2.St) : Prop := σ'.length = σ.length ∧ ∀ i, i ∉ vs → σ'[i]? = σ[i]?
theorem Tch.refl {vs : List Nat} {σ : L2.St} : Tch vs σ σ := ⟨rfl, fun _ _ => rfl⟩
theorem Tch.trans {vs : List Nat} {σ σ1 σ2 : L2.St} (a : Tch vs σ σ1) (b : Tch vs σ1 σ2) : Tch vs σ σ2 := ⟨b.1.trans a.1, fun i h => (b.2 i h).trans (a.2 i h)⟩
theorem Tch.set {vs : List Nat} {σ : L2.St} {i : Nat} {x : Option V} (h : i ∈ vs) : Tch vs σ (σ.set i x) := ⟨by simp, fun j hj => List.getElem?_set_ne (fun e => hj (by rw [← e]; exact h))⟩
def tGD (K : Fg) (ω : List Sh) (vs : List Nat) (t : Tg) : TG := fun v σ H Q => ∃ F G ρ d ρ1, RD K F v d ∧ Sim K ω F G H ρ σ ∧ t d ρ = some ρ1 ∧ ∀ σ' F' H', Tch vs σ σ' → Le F F' → Sim K ω F' G H' ρ1 σ' → Q σ' H'
def tGs (K : Fg) (ω : List Sh) (vs : List Nat) (t : Tgs) : TGs := fun xs σ H Q => ∃ F G ρ ds ρ1, RDs K F xs ds ∧ Sim K ω F G H ρ σ ∧ t ds ρ = some ρ1 ∧ ∀ σ' F' H', Tch vs σ σ' → Le F F' → Sim K ω F' G H' ρ1 σ' → Q σ' H'
abbrev DG (X : Cx) (ω : List Sh) (vs : List Nat) (tg : Expr) (t : Tg) : Prop := PG X tg (tGD X.K ω vs t)
abbrev DGs (X : Cx) (ω : List Sh) (vs : List Nat) (tgs : List Expr) (t : Tgs) : Prop := PGs X tgs (tGs X.K ω vs t)
theorem PG.imp {tg : Expr} {t t' : TG} (h : PG X tg t) (k : ∀ v σ H Q, t' v σ H Q → t v σ H Q) : PG X tg t' := ⟨fun pins s σ H v u Q I r q => h.run pins s σ H v u Q I r (k v σ H Q q)⟩
theorem PGs.imp {tg : List Expr} {t t' : TGs} (h : PGs X tg t) (k : ∀ v σ H Q, t' v σ H Q → t v σ H Q) : PGs X tg t' := ⟨fun pins s σ H v u Q I r q => h.run pins s σ H v u Q I r (k v σ H Q q)⟩
def gSet (i : Nat) : Tg := fun d ρ => some (ρ.set i (some d))
theorem Sim.setFz {K : Fg} {ω : List Sh} {F G H : Hp} {ρ : Rho} {σ : L2.St} {v : V} {d : D} {i : Nat} (S : Sim K ω F G H ρ σ) (h : ω[i]? = some .fz) (r : RD K F v d) : Sim K ω F G H (ρ.set i (some d)) (σ.set i (some v)) :=
  S.put h (.inr ⟨v, d, rfl, rfl, r⟩)
theorem dg_name {i : Nat} {x : Str} {vs : List Nat} (hs : ω[i]? = some .fz) (h : PG X (.Name x pos) (gName i)) (hv : i ∈ vs := by first | exact List.mem_cons_self | decide) : DG X ω vs (.Name x pos) (gSet i) :=
  PG.imp h fun v σ H Q ⟨F, G, ρ, d, ρ1, r, S, e, q⟩ => by
    cases e
    exact q _ F H (Tch.set hv) (Le.refl _) (S.setFz hs r)
def gsNil : Tgs := fun ds ρ => match ds with | [] => some ρ | _ => none
def gsCons (t : Tg) (ts : Tgs) : Tgs := fun ds ρ => match ds with | [] => none | d :: ds => (t d ρ).bind fun ρ1 => ts ds ρ1
theorem dgs_nil {vs : List Nat} : DGs X ω vs [] gsNil := PGs.imp pgs_nil fun v σ H Q ⟨F, G, ρ, ds, ρ1, r, S, e, q⟩ => by
  unfold gsNil at e
  split at e
  · cases e
    cases r
    exact ⟨rfl, q σ F H Tch.refl (Le.refl _) S⟩
  · cases e
theorem dgs_cons {vs : List Nat} {es : List Expr} {t : Tg} {ts : Tgs} (h : DG X ω vs e t) (hs : DGs X ω vs es ts) (hq : (assignEach (e :: es) X.env).map (·.2) = assign e X.env :: (assignEach es X.env).map (·.2) := by rfl) : DGs X ω vs (e :: es) (gsCons t ts) :=
  PGs.imp (pgs_cons h hs hq) fun v σ H Q ⟨F, G, ρ, ds, ρ1, r, S, e, q⟩ => by
    unfold gsCons at e
    cases r with
    | nil => cases e
    | cons r rs =>
      obtain ⟨ρ2, e1, e2⟩ := Option.bind_eq_some_iff.mp e
      exact ⟨_, _, rfl, F, G, ρ, _, ρ2, r, S, e1, fun σ' F' H' tc l S' => ⟨F', G, ρ2, _, ρ1, rs.mono l, S', e2, fun σ2 F2 H2 tc2 l2 S2 => q σ2 F2 H2 (tc.trans tc2) (l.trans l2) S2⟩⟩
def gUnp (n : Nat) (ts : Tgs) : Tg := fun d ρ => match d with
  | .tup ds => if ds.length = n then ts ds ρ else none
  | .ktup ds => if ds.length = n then ts ds ρ else none
  | _ => none
theorem dg_tup {vs : List Nat} {es : List Expr} {k n : Nat} {ts : Tgs} (hc : X.calm = true) (h : DGs X ω vs es ts) (hn : (assignEach es X.env).length = n := by rfl) (hst : (assignEach es X.env).findIdx? (·.1) = none := by rfl) : DG X ω vs (.Tuple es k pos) (gUnp n ts) :=
  PG.imp (pg_tup hc h hn hst) fun v σ H Q ⟨F, G, ρ, d, ρ1, r, S, e, q⟩ => by
    unfold gUnp at e
    split at e
    · split at e
      · rename_i hl
        cases r with
        | tup hq rs => exact ⟨_, _, rfl, SqT.of (S.fH _ _ hq), by rw [rs.length]; exact hl, F, G, ρ, _, ρ1, rs, S, e, q⟩
      · cases e
    · split at e
      · rename_i hl
        cases r with
        | ktup hq rs => exact ⟨_, _, rfl, SqT.mono S.fH hq, by rw [rs.length]; exact hl, F, G, ρ, _, ρ1, rs, S, e, q⟩
      · cases e
    · cases e
/-- target = e -/
def asgM (t : Tg) (m : M D) : M Fl := bindM m fun d ρ => match t d ρ with
  | some ρ1 => .ok .nx ρ1
  | none => .no
theorem ds_asg {tg : Expr} {t : Tg} {vs : List Nat} (wk : Wk ω C.ωe) (he : DE X C.W ω e .fz m) (hg : DG X ω vs tg t) (hs : swapsWithSole [tg] e pos.line X.env = pure false := by rfl) (hw : swappedStores [tg] e X.env = pure none := by rfl)
    (h1 : (assignEach [tg] X.env).map (·.2) = [assign tg X.env] := by rfl) : DS X C ω (.Assign [tg] e pos) ω (asgM t m) :=
  PS.imp (ps_asg he hg hs hw h1) fun D σ H q => by
    obtain ⟨F, q⟩ := tS_bind (sh := .fz) wk q
    refine ⟨F, tMF_mono q fun x H1 ⟨d, F1, G, ρ1, S, z⟩ => ?_⟩
    obtain ⟨r, S1⟩ := S.top
    cases e : t d ρ1 with
    | none => rw [e] at z; exact z.elim
    | some ρ2 =>
      rw [e] at z
      exact ⟨F1, G, ρ1, d, ρ2, r, S1, e, fun σ' F' H' _ => z σ' F' H'⟩
/-- a, b = x, y, two plain names -/
def parM (i j : Nat) (ms : M (List D)) : M Fl := bindM ms fun ds ρ => match ds with
  | [x, y] => .ok .nx ((ρ.set i (some x)).set j (some y))
  | _ => .no
theorem tS_bindA {ms : M (List D)} {k : List D → M Fl} {D : Ends} {σ : L2.St} {H : Hp} (wk : Wk ω C.ωe) (h : tS X.K X.mg C ω ω' (bindM ms k) D σ H) :
    tA X.K X.mg C.W ω ms σ H fun xs H1 => ∃ ds F1 G ρ1, RDs X.K F1 xs ds ∧ Sim X.K ω F1 G H1 ρ1 σ ∧ (k ds ρ1).sat (wantS X.K C ω' F1 G D) (zS X.K X.mg C F1 G) := by
  obtain ⟨F, G, ρ, S, h⟩ := h
  exact ⟨F, G, ρ, S, Res.sat_mono (Res.sat_bind h) (fun d ρ1 q vs F1 H1 l S1 rs => ⟨d, F1, G, ρ1, rs, S1, Res.sat_mono q (fun _ _ z => z.le l) fun _ _ z => z.le l⟩) fun _ _ z => z.zx wk⟩
theorem ds_par {i j : Nat} {ms : M (List D)} {st : Stmt} {t : TA → TS} (wk : Wk ω C.ωe) (hi : ω[i]? = some .fz) (hj : ω[j]? = some .fz) (ha : PS X st (tPar i j (tA X.K X.mg C.W ω ms))) : DS X C ω st ω (parM i j ms) :=
  PS.imp ha fun D σ H q => by
    obtain ⟨F, G, ρ, S, h⟩ := tS_bindA wk q
    refine ⟨F, G, ρ, S, Res.sat_mono h (fun ds ρ' p vs F' H' l S' rs => ?_) fun _ _ z => z⟩
    obtain ⟨ds, F1, G, ρ1, rs, S1, z⟩ := p vs F' H' l S' rs
    split at z
    · cases rs with
      | cons r1 rs =>
        cases rs with
        | cons r2 rs =>
          cases rs
          exact ⟨_, _, rfl, z _ F1 _ (Le.refl _) ((S1.setFz hi r1).setFz hj r2)⟩
    · exact z.elim
/-- name op= e -/
def augM (i : Nat) (g : D → D → Option D) (m : M D) : M Fl := bindM (getV i) fun x => bindM m fun y => bindM (liftO (g x y)) fun z ρ => .ok .nx (ρ.set i (some z))
theorem ds_aug {i : Nat} {x : Str} {op : Operator} {g : D → D → Option D} {p' : Pos} (wk : Wk ω C.ωe) (hs : ω[i]? = some .fz) (ho : OpD X (inplaceOp op) g) (hN : X.N.Nodup) (hi : X.N[i]? = some x) (hx : Loc X.env.scope x) (he : DE X C.W ω e .fz m)
    (hf : X.fn x = true ∨ X.env.scope.names.lookup x = some .local := by first | exact .inl rfl | exact .inr rfl | assumption) : DS X C ω (.AugAssign (.Name x p') op e pos) ω (augM i g m) := by
  have hp : PIp X op fun x y H Q => ∃ F d1 d2 r, g d1 d2 = some r ∧ Le F H ∧ RD X.K F x d1 ∧ RD X.K F y d2 ∧ ∀ z F' H', Gr F H F' H' → RD X.K F' z r → Q z H' :=
    fun pins s σ H x y v u Q I r1 r2 ⟨F, d1, d2, r, e, q⟩ => ho F d1 d2 r e pins s σ H x y v u Q I r1 r2 q
  refine PS.imp (ps_aug hN hi hx he hp hf) fun D σ H q => ?_
  obtain ⟨F, G, ρ, S, q⟩ := q
  have q := Res.sat_bind q
  unfold getV at q
  split at q
  · rename_i d ed
    obtain ⟨v, ev, rv⟩ := S.get hs ed
    refine ⟨v, ev, ?_⟩
    have q' : tS X.K X.mg C ω ω (bindM m fun y => bindM (liftO (g d y)) fun z ρ => .ok .nx (ρ.set i (some z))) D σ H := ⟨F, G, ρ, S, q⟩
    obtain ⟨F0, G0, ρ0, S0, q0⟩ := q'
    refine ⟨F, G, ρ, S, Res.sat_mono (Res.sat_bind q) (fun d2 ρ1 p w F1 H1 l S1 => ?_) fun _ _ z => z.zx wk⟩
    obtain ⟨r2, S2⟩ := S1.top
    have p := Res.sat_bind p
    cases eg : g d d2 with
    | none => rw [eg] at p; exact p.elim
    | some r =>
      rw [eg] at p
      exact ⟨F1, d, d2, r, eg, S1.fH, rv.mono l, r2, fun z F2 H2 gr rz => p _ F2 H2 (l.trans gr.lf) ((S2.gr gr).setFz hs rz)⟩
  · exact q.elim
/-- owned: xs[k] = e -/
def updM (i : Nat) (g : List D → Option (List D)) : M Fl := fun ρ => match ρ[i]? with
  | some (some (.lst xs)) => (match g xs with
    | some ys => .ok .nx (ρ.set i (some (.lst ys)))
    | none => .no)
  | _ => .no
def putAt (k : D) (d : D) (xs : List D) : Option (List D) := match k with
  | .int j => (ixN xs.length j).map fun n => xs.set n d
  | _ => none
def chkM (i : Nat) : M D := fun ρ => match ρ[i]? with
  | some (some (.lst xs)) => .ok .non ρ
  | _ => .no
def setIxM (i : Nat) (m mk : M D) : M Fl := bindM m fun d => bindM (chkM i) fun _ => bindM mk fun k => updM i (putAt k d)
theorem ds_setIx {i : Nat} {x : Str} {ix : Expr} {mk : M D} {p' p2 : Pos} {s : Sh} (wk : Wk ω C.ωe) (h1 : ω[i]? = some s) (hs : coreSh s = .lst .fz) (hv : PE X (.Name x p') (tVar i)) (he : DE X C.W ω e .fz m) (hk : DE X C.W ω ix .fz mk)
    (ha : ∀ v, assign (.Subscript (.Name x p') ix p2) X.env v = (do
      let ov ← holding [v] (eval (.Name x p') X.env)
      let iv ← holding [v, ov] (eval ix X.env)
      standAt p2
      holding [v, ov, iv] (setItem ov iv v)
      release [v, ov, iv] []) := by intro _; rfl)
    (hq : swapsWithSole [.Subscript (.Name x p') ix p2] e pos.line X.env = pure false := by rfl) (hw : swappedStores [.Subscript (.Name x p') ix p2] e X.env = pure none := by rfl)
    (h2 : (assignEach [.Subscript (.Name x p') ix p2] X.env).map (·.2) = [assign (.Subscript (.Name x p') ix p2) X.env] := by rfl) : DS X C ω (.Assign [.Subscript (.Name x p') ix p2] e pos) ω (setIxM i m mk) :=
  PS.imp (ps_asg he (pg_sub hv hk set_list ha) hq hw h2) fun D σ H q => by
    obtain ⟨F, q⟩ := tS_bind (sh := .fz) wk q
    refine ⟨F, tMF_mono q fun v H1 ⟨d, F1, G, ρ1, S, z⟩ => ?_⟩
    obtain ⟨r, S1⟩ := S.top
    unfold chkM at z
    have z := Res.sat_bind z
    split at z
    · rename_i ds0 e0
      obtain ⟨a, xs, ea, _⟩ := S1.lst h1 hs e0
      refine ⟨_, ea, ?_⟩
      obtain ⟨F0, q0⟩ := tS_bind (sh := .fz) wk (⟨F1, G, ρ1, S1, z⟩ : tS X.K X.mg C ω ω (bindM mk fun k => updM i (putAt k d)) D σ H1)
      obtain ⟨G0, ρ0, S0, q0⟩ := q0
      refine ⟨F1, G, ρ1, S1, Res.sat_mono (Res.sat_bind z) (fun k ρ2 p w F2 H2 l S2 => ?_) fun _ _ z => z.zx wk⟩
      obtain ⟨rk, S3⟩ := S2.top
      unfold updM at p
      split at p
      · rename_i ds e2
        split at p
        · rename_i ys ey
          obtain ⟨a', xs', ea', hx, rs, up⟩ := S3.lst h1 hs e2
          rw [ea] at ea'
          cases ea'
          unfold putAt at ey
          split at ey
          · rename_i j
            cases rk
            obtain ⟨n, en, ey⟩ := Option.map_eq_some_iff.mp ey
            subst ey
            refine ⟨a, xs', j, n, rfl, rfl, hx, by rw [rs.length]; exact en, ?_⟩
            exact p σ F2 _ l (up F2 H2 _ _ (Gr.refl S3.fH) (rs.set (r.mono l) n))
          · cases ey
        · exact p.elim
      · exact p.elim
    · exact z.elim
end
end DL
/-! DL: loops, comprehensions. -/
namespace DL
open PySem PySem.Spec PyProof.Rows L2
section
variable {K : Fg} {ω : List Sh} {F F' G H H' : Hp} {ρ : Rho} {σ : L2.St} {s : Sh} {v : V} {d : D}
/-- the value just made is put aside -/
theorem Sim.hide (S : Sim K (s :: ω) F G H (some d :: ρ) (some v :: σ)) : ∃ G', Sim K ω F G' H ρ σ ∧
    ∀ {ω' : List Sh} {F' H' : Hp} {ρ' : Rho} {σ' : L2.St}, Le F F' → Sim K ω' F' G' H' ρ' σ' → Sim K (s :: ω') F' G H' (some d :: ρ') (some v :: σ') := by
  obtain ⟨⟨fp, o, n⟩, l, g, dj⟩ := S
  cases o with
  | @bd _ _ _ _ _ _ f1 f2 w o nn =>
    have n1 : ∀ a ∈ f1, F a = none ∧ G a = none := fun a m => n a (List.mem_append_left _ m)
    have sub : ∀ {a : Addr}, G a ≠ none → withH G H f1 a ≠ none := fun {a} q => by
      by_cases m : a ∈ f1
      · exact absurd (n1 a m).2 q
      · rw [withH_out m]; exact q
    refine ⟨withH G H f1, ⟨⟨f2, o, fun a m => ⟨(n a (List.mem_append_right _ m)).1, ?_⟩⟩, l, g.with w.mu, dj.with g (fun a q => ?_) w.mu⟩, fun {ω' F' H' ρ' σ'} lf S' => ?_⟩
    · rw [withH_out fun z => nn a z m]; exact (n a (List.mem_append_right _ m)).2
    · by_cases m : a ∈ f1
      · exact (n1 a m).1
      · rw [withH_out m] at q; exact dj.1 a q
    · obtain ⟨⟨fq, o', n'⟩, l', g', dj'⟩ := S'
      have live : ∀ a ∈ f1, withH G H f1 a ≠ none := fun a m => by
        obtain ⟨u, e⟩ := w.live a m
        rw [withH_in m, e]; exact fun z => nomatch z
      refine ⟨⟨f1 ++ fq, .bd (w.mono lf (g'.kept w.mu)) o' fun a m z => live a m (n' a z).2, fun a m => ?_⟩, l', fun a u e => ?_, ⟨fun a q => dj'.1 a (sub q), dj.2⟩⟩
      · rcases List.mem_append.mp m with m | m
        · exact ⟨dj'.1 a (live a m), (n1 a m).2⟩
        · refine ⟨(n' a m).1, ?_⟩
          cases e : G a with
          | none => rfl
          | some u => exact absurd (n' a m).2 (sub (by rw [e]; exact fun z => nomatch z))
      · refine g' a u ?_
        rw [withH_out fun m => by rw [(n1 a m).2] at e; cases e]
        exact e
end
section
variable {X : Cx} {W : WX} {C : Sx} {ω : List Sh} {pos : Pos} {a b c e : Expr} {m m1 m2 m3 : M D} {sh : Sh}
/-- what is made is frozen -/
theorem de_fz (h : DE X W ω e sh m) : DE X W ω e .fz m := PE.imp h fun σ H Q ⟨F, G, ρ, S, q⟩ =>
  ⟨F, G, ρ, S, Res.sat_mono q (fun d ρ1 p v F1 H1 l S1 => by
    obtain ⟨F2, l2, S2⟩ := S1.wk (ω' := .fz :: ω) (.fz (Wk.refl _))
    exact p v F2 H1 (l.trans l2) S2) fun _ _ z => z⟩
/-! ### what is walked -/
structure Walks (K : Fg) (F : Hp) (J : It) (ds : List D) : Prop where
  go : ∀ F' H i, Le F F' → Le F' H → i < ds.length → J.go i H
  yld : ∀ F' H i x H' d, Le F F' → Le F' H → ds[i]? = some d → J.yld i H x H' → ∃ F'', Gr F' H F'' H' ∧ RD K F'' x d
  stop : ∀ F' H, Le F F' → Le F' H → J.stop ds.length H
def tI (K : Fg) (mg : Str → Option Value) (W : WX) (ω : List Sh) (m : M (List D)) : TI := fun σ H R => ∃ F G ρ, Sim K ω F G H ρ σ ∧
  (m ρ).sat (fun ds ρ' => ∀ J F' H', Le F F' → Sim K ω F' G H' ρ' σ → Walks K F' J ds → R J H') (Zx K mg W ω F G σ)
abbrev DI (X : Cx) (W : WX) (ω : List Sh) (tg iter : Expr) (m : M (List D)) : Prop := PI X tg iter (tI X.K X.mg W ω m)
theorem PI.imp {tg iter : Expr} {t t' : TI} (h : PI X tg iter t) (k : ∀ σ H Q, t' σ H Q → t σ H Q) : PI X tg iter t' := ⟨fun pins s σ H R I q => h.run pins s σ H R I (k σ H R q)⟩
theorem walks_lst {K : Fg} {F : Hp} {p : Addr} {xs : List V} {ds : List D} (h : SqL K F p xs) (huniq : ∀ F' H ys, Le F F' → Le F' H → SqL K H p ys → True) (r : RDs K F xs ds) : Walks K F (Itl K p) ds where
  go F' H i l l2 hi := by
    have hx : i < xs.length := by rw [r.length]; exact hi
    exact ⟨xs, xs[i], SqL.mono (l.trans l2) h, by simp [hx]⟩
  yld F' H i x H' d l l2 e y := by
    obtain ⟨rfl, y⟩ := y
    obtain ⟨v, ev, rv⟩ := r.get e
    have := y xs (SqL.mono (l.trans l2) h)
    rw [ev] at this
    cases this
    exact ⟨F', Gr.refl l2, rv.mono l⟩
  stop F' H l l2 := ⟨xs, SqL.mono (l.trans l2) h, Nat.le_of_eq r.length⟩
theorem walks_tup {K : Fg} {F : Hp} {p : Addr} {xs : List V} {ds : List D} (h : SqT K F p xs) (r : RDs K F xs ds) : Walks K F (Itt K p) ds where
  go F' H i l l2 hi := by
    have hx : i < xs.length := by rw [r.length]; exact hi
    exact ⟨xs, xs[i], SqT.mono (l.trans l2) h, by simp [hx]⟩
  yld F' H i x H' d l l2 e y := by
    obtain ⟨rfl, y⟩ := y
    obtain ⟨v, ev, rv⟩ := r.get e
    have := y xs (SqT.mono (l.trans l2) h)
    rw [ev] at this
    cases this
    exact ⟨F', Gr.refl l2, rv.mono l⟩
  stop F' H l l2 := ⟨xs, SqT.mono (l.trans l2) h, Nat.le_of_eq r.length⟩
def intsFrom (lo : Int) (n : Nat) : List D := (List.range n).map fun (i : Nat) => D.int (lo + i)
theorem intsFrom_len (lo : Int) (n : Nat) : (intsFrom lo n).length = n := by simp [intsFrom]
theorem walks_rng {K : Fg} {F : Hp} (lo : Int) (n : Nat) : Walks K F (Itr lo n) (intsFrom lo n) where
  go F' H i l l2 hi := by rw [intsFrom_len] at hi; exact hi
  yld F' H i x H' d l l2 e y := by
    obtain ⟨rfl, rfl⟩ := y
    have hi : i < n := by
      have := (List.getElem?_eq_some_iff.mp e).1
      rwa [intsFrom_len] at this
    have : (intsFrom lo n)[i]? = some (.int (lo + i)) := by simp [intsFrom, hi]
    rw [this] at e
    cases e
    exact ⟨F', Gr.refl l2, .int _⟩
  stop F' H l l2 := by rw [intsFrom_len]; exact Nat.le_refl _
/-- a list or a tuple -/
def seqD : D → Option (List D)
  | .lst xs => some xs
  | .tup xs => some xs
  | .ktup xs => some xs
  | .scr xs => some xs
  | _ => none
def seqOf (m : M D) : M (List D) := bindM m fun d => liftO (seqD d)
theorem pi_any {l tg : Expr} {tl : TE} (hl : PE X l tl) : PI X tg l (fun σ H R => tl σ H fun x H1 => ∃ p, x = .ref p ∧ (((∃ xs, SqL X.K H1 p xs) ∧ R (Itl X.K p) H1) ∨ ((∃ xs, SqT X.K H1 p xs) ∧ R (Itt X.K p) H1))) := by
  refine ⟨fun pins s σ H R I h => thn (hl.run pins s σ H _ I h) fun v s1 ⟨x, H1, I1, r1, p, e, q⟩ => ?_⟩
  subst e
  cases r1
  rcases q with ⟨⟨xs, hq⟩, q⟩ | ⟨⟨xs, hq⟩, q⟩
  · obtain ⟨its, rv, pl, hz⟩ := I1.list hq
    refine wpAny_pyIter_list pl.isList ⟨_, [s1.heap.objs.size], _, _, H1, rfl, I1.kept (t' := s1.toks) fun b o e => Heap.get?_push_of_some _ e, turn_list p _, ⟨_, Heap.get?_push_size _ rfl, rfl, rfl⟩, fun b hb => ?_, q⟩
    cases List.mem_singleton.mp hb
    exact I1.fpOk (Nat.le_refl _) (I1.hok.fresh (Nat.le_refl _))
  · obtain ⟨its, rv, pl, hz⟩ := I1.tuple hq
    refine wpAny_pyIter_tuple (show s1.heap.IsTuple p its.toArray from pl) ⟨_, [s1.heap.objs.size], _, _, H1, rfl, I1.kept (t' := s1.toks) fun b o e => Heap.get?_push_of_some _ e, turn_tuple p _, ⟨_, Heap.get?_push_size _ rfl, rfl, rfl⟩, fun b hb => ?_, q⟩
    cases List.mem_singleton.mp hb
    exact I1.fpOk (Nat.le_refl _) (I1.hok.fresh (Nat.le_refl _))
theorem di_seq {tg l : Expr} (h : DE X W ω l .fz m) : DI X W ω tg l (seqOf m) :=
  PI.imp (pi_any h) fun σ H R ⟨F, G, ρ, S, q⟩ => by
    refine ⟨F, G, ρ, S, Res.sat_mono (Res.sat_bind q) (fun d ρ1 p v F1 H1 l S1 => ?_) fun _ _ z => z⟩
    obtain ⟨r, S2⟩ := S1.top
    unfold seqD at p
    cases r with
    | lst h rs => exact ⟨_, rfl, .inl ⟨⟨_, SqL.of (S2.fH _ _ h)⟩, p _ F1 H1 l S2 (walks_lst (SqL.of h) (fun _ _ _ _ _ _ => trivial) rs)⟩⟩
    | scr h rs => exact ⟨_, rfl, .inl ⟨⟨_, SqL.mono S2.fH h⟩, p _ F1 H1 l S2 (walks_lst h (fun _ _ _ _ _ _ => trivial) rs)⟩⟩
    | tup h rs => exact ⟨_, rfl, .inr ⟨⟨_, SqT.of (S2.fH _ _ h)⟩, p _ F1 H1 l S2 (walks_tup (SqT.of h) rs)⟩⟩
    | ktup h rs => exact ⟨_, rfl, .inr ⟨⟨_, SqT.mono S2.fH h⟩, p _ F1 H1 l S2 (walks_tup h rs)⟩⟩
    | _ => exact p.elim
/-- range(n), range(a, b) -/
noncomputable def small (i : Int) : Bool := @decide (-(2 ^ 62) ≤ i) (Classical.propDecidable _) && @decide (i < 2 ^ 62) (Classical.propDecidable _)
theorem small.le {i : Int} (h : small i = true) : -(2 ^ 62) ≤ i ∧ i < 2 ^ 62 := by
  unfold small at h
  rw [Bool.and_eq_true] at h
  exact ⟨@of_decide_eq_true _ (Classical.propDecidable _) h.1, @of_decide_eq_true _ (Classical.propDecidable _) h.2⟩
theorem small_of {i : Int} (h1 : -4611686018427387904 ≤ i) (h2 : i < 4611686018427387904) : small i = true := by
  unfold small
  rw [Bool.and_eq_true]
  exact ⟨@decide_eq_true _ (Classical.propDecidable _) h1, @decide_eq_true _ (Classical.propDecidable _) h2⟩
noncomputable def rng1 : List D → Option (List D)
  | [.int n] => if small n then some (intsFrom 0 n.toNat) else none
  | _ => none
noncomputable def rng2 : List D → Option (List D)
  | [.int a, .int b] => if small a && small b then some (intsFrom a (b - a).toNat) else none
  | _ => none
def ofArgs (g : List D → Option (List D)) (ms : M (List D)) : M (List D) := bindM ms fun ds => liftO (g ds)
theorem di_rng1 {tg e1 : Expr} {ms : M (List D)} {p : Pos} (hg : Gl X "range") (hm : X.mg "range" = none) (ha : DA X W ω [e1] ms) (hs : starEach [e1] X.env = [(false, eval e1 X.env)] := by rfl) :
    DI X W ω tg (.Call (.Name "range" p) [e1] [] pos) (ofArgs rng1 ms) :=
  PI.imp (pi_range1 hg hm ha hs) fun σ H R ⟨F, G, ρ, S, q⟩ => by
    refine ⟨F, G, ρ, S, Res.sat_mono (Res.sat_bind q) (fun ds ρ1 p vs F1 H1 l S1 rs => ?_) fun _ _ z => z⟩
    unfold rng1 at p
    split at p
    · rename_i n
      by_cases hn : small n = true
      · simp only [hn, if_true] at p
        cases rs with
        | cons r rs =>
          cases rs
          cases r
          exact ⟨n, rfl, (small.le hn).1, (small.le hn).2, p _ F1 H1 l S1 (walks_rng 0 n.toNat)⟩
      · simp only [hn] at p; exact p.elim
    · exact p.elim
theorem di_rng2 {tg e1 e2 : Expr} {ms : M (List D)} {p : Pos} (hg : Gl X "range") (hm : X.mg "range" = none) (ha : DA X W ω [e1, e2] ms) (hs : starEach [e1, e2] X.env = [(false, eval e1 X.env), (false, eval e2 X.env)] := by rfl) (hs2 : starEach [e2] X.env = [(false, eval e2 X.env)] := by rfl) :
    DI X W ω tg (.Call (.Name "range" p) [e1, e2] [] pos) (ofArgs rng2 ms) :=
  PI.imp (pi_range2 hg hm ha hs hs2) fun σ H R ⟨F, G, ρ, S, q⟩ => by
    refine ⟨F, G, ρ, S, Res.sat_mono (Res.sat_bind q) (fun ds ρ1 p vs F1 H1 l S1 rs => ?_) fun _ _ z => z⟩
    unfold rng2 at p
    split at p
    · rename_i n k
      by_cases hn : (small n && small k) = true
      · simp only [hn, if_true] at p
        rw [Bool.and_eq_true] at hn
        cases rs with
        | cons r rs =>
          cases rs with
          | cons r2 rs =>
            cases rs
            cases r; cases r2
            exact ⟨n, k, rfl, ⟨(small.le hn.1).1, (small.le hn.1).2, (small.le hn.2).1, (small.le hn.2).2⟩, p _ F1 H1 l S1 (walks_rng n (k - n).toNat)⟩
      · simp only [hn] at p; exact p.elim
    · exact p.elim
/-! ### for -/
def forM (t : Tg) (body : M Fl) : List D → M Fl
  | [] => nextM
  | d :: ds => fun ρ => match t d ρ with
    | none => .no
    | some ρ1 => match body ρ1 with
      | .ok .nx ρ2 => forM t body ds ρ2
      | .ok .ct ρ2 => forM t body ds ρ2
      | .ok .bk ρ2 => .ok .nx ρ2
      | r => r
def forS (ms : M (List D)) (t : Tg) (body : M Fl) : M Fl := bindM ms fun ds => forM t body ds
abbrev Sx.at_ (C : Sx) (ω : List Sh) : Sx := { C with ωl := ω }
theorem ds_for {tg iter : Expr} {body : List Stmt} {ms : M (List D)} {t : Tg} {vs : List Nat} {mb : M Fl} (wk : Wk ω C.ωe) (hp : PassesOwn (model X.prog X.w) X.A X.env X.xe) (hc : X.calm = true) (hi : DI X C.W ω tg iter ms) (hg : DG X ω vs tg t) (hb : DSs X (C.at_ ω) ω body ω mb)
    (hs : ∀ x, foldedSetIterable iter X.env x = pure x := by intro _; rfl) : DS X C ω (.For tg iter body [] pos) ω (forS ms t mb) :=
  PS.imp (ps_for hp hc hi hg hb hs) fun D σ H ⟨F, G, ρ, S, q⟩ => by
    refine ⟨F, G, ρ, S, Res.sat_mono (Res.sat_bind q) (fun ds ρ1 p J F1 H1 l S1 wl => ?_) fun _ _ z => z.zx wk⟩
    refine ⟨fun i n σ H => n = ds.length - i ∧ i ≤ ds.length ∧ ∃ F2 ρ2, Le F1 F2 ∧ Sim X.K ω F2 G H ρ2 σ ∧ (forM t mb (ds.drop i) ρ2).sat (wantS X.K C ω F2 G D) (zS X.K X.mg C F2 G),
      ⟨ds.length, by simp, Nat.zero_le _, F1, ρ1, Le.refl _, S1, Res.sat_mono p (fun _ _ z => z.le l) fun _ _ z => z.le l⟩, ?_⟩
    rintro i n σ2 H2 ⟨rfl, hi, F2, ρ2, l2, S2, q2⟩
    by_cases hlt : i < ds.length
    · have ed : ds.drop i = ds[i] :: ds.drop (i + 1) := List.drop_eq_getElem_cons hlt
      rw [ed] at q2
      refine .inr ⟨wl.go F2 H2 i l2 S2.fH hlt, fun σ' H' => ∃ F3 ρ3, Le F1 F3 ∧ Sim X.K ω F3 G H' ρ3 σ' ∧ (forM t mb (ds.drop (i + 1)) ρ3).sat (wantS X.K C ω F3 G D) (zS X.K X.mg C F3 G), fun σ' H' ⟨F3, ρ3, a, b, c⟩ => ⟨ds.length - (i + 1), by omega, rfl, hlt, F3, ρ3, a, b, c⟩, fun x H3 y => ?_⟩
      obtain ⟨F3, gr, rd⟩ := wl.yld F2 H2 i x H3 ds[i] l2 S2.fH (by simp [hlt]) y
      have S3 := S2.gr gr
      unfold forM at q2
      cases et : t ds[i] ρ2 with
      | none => rw [et] at q2; exact q2.elim
      | some ρ3 =>
        rw [et] at q2
        refine ⟨F3, G, ρ2, _, ρ3, rd, S3, et, fun σ4 F4 H4 _ l4 S4 => ⟨F4, G, ρ3, S4, ?_⟩⟩
        have l24 : Le F2 F4 := gr.lf.trans l4
        dsimp only at q2
        cases eb : mb ρ3 with
        | ok fl ρ5 =>
          rw [eb] at q2
          cases fl with
          | nx => exact fun σ' F' H' l' S' => ⟨F', ρ5, l2.trans (l24.trans l'), S', Res.sat_mono q2 (fun _ _ z => z.le (l24.trans l')) fun _ _ z => z.le (l24.trans l')⟩
          | ct => exact fun σ' F' H' l' S' => ⟨F', ρ5, l2.trans (l24.trans l'), S', Res.sat_mono q2 (fun _ _ z => z.le (l24.trans l')) fun _ _ z => z.le (l24.trans l')⟩
          | bk => exact fun σ' F' H' l' S' => q2 σ' F' H' (l24.trans l') S'
          | rt d => exact fun v F' H' l' S' => q2 v F' H' (l24.trans l') S'
        | exc x ρ5 => rw [eb] at q2; exact zS.le (C := C) l24 q2
        | no => rw [eb] at q2; exact q2.elim
    · have e : i = ds.length := by omega
      subst e
      refine .inl ⟨wl.stop F2 H2 l2 S2.fH, ?_⟩
      rw [List.drop_length] at q2
      exact q2 σ2 F2 H2 (Le.refl _) S2
/-! ### while -/
def whN (c : M Bool) (b : M Fl) : Nat → Rho → Option (Res Fl)
  | 0, _ => none
  | n + 1, ρ => match c ρ with
    | .ok false ρ1 => some (.ok .nx ρ1)
    | .ok true ρ1 => (match b ρ1 with
      | .ok .nx ρ2 => whN c b n ρ2
      | .ok .ct ρ2 => whN c b n ρ2
      | .ok .bk ρ2 => some (.ok .nx ρ2)
      | r => some r)
    | .exc e ρ1 => some (.exc e ρ1)
    | .no => some .no
theorem whN_more {c : M Bool} {b : M Fl} {r : Res Fl} : ∀ {n : Nat} {ρ : Rho}, whN c b n ρ = some r → whN c b (n + 1) ρ = some r
  | 0, _, h => by cases h
  | n + 1, ρ, h => by
    unfold whN at h ⊢
    cases ec : c ρ with
    | ok t ρ1 =>
      rw [ec] at h
      cases t with
      | false => exact h
      | true =>
        dsimp only at h ⊢
        cases eb : b ρ1 with
        | ok fl ρ2 =>
          rw [eb] at h
          cases fl with
          | nx => exact whN_more h
          | ct => exact whN_more h
          | bk => exact h
          | rt d => exact h
        | exc e ρ2 => rw [eb] at h; exact h
        | no => rw [eb] at h; exact h
    | exc e ρ1 => rw [ec] at h; exact h
    | no => rw [ec] at h; exact h
theorem whN_le {c : M Bool} {b : M Fl} {r : Res Fl} {n k : Nat} {ρ : Rho} (h : whN c b n ρ = some r) (l : n ≤ k) : whN c b k ρ = some r := by
  induction l with
  | refl => exact h
  | step _ ih => exact whN_more ih
theorem whN_one {c : M Bool} {b : M Fl} {r r' : Res Fl} {n k : Nat} {ρ : Rho} (h : whN c b n ρ = some r) (h' : whN c b k ρ = some r') : r = r' := by
  have a := whN_le h (Nat.le_max_left n k)
  have b := whN_le h' (Nat.le_max_right n k)
  rw [a] at b
  exact Option.some.inj b
open Classical in
/-- what the loop comes to, .no if it has no end -/
noncomputable def whileM (c : M Bool) (b : M Fl) : M Fl := fun ρ => if h : ∃ r, ∃ n, whN c b n ρ = some r then h.choose else .no
theorem whileM_of {c : M Bool} {b : M Fl} {r : Res Fl} {n : Nat} {ρ : Rho} (h : whN c b n ρ = some r) : whileM c b ρ = r := by
  have h' : ∃ r, ∃ n, whN c b n ρ = some r := ⟨r, n, h⟩
  unfold whileM
  rw [dif_pos h']
  obtain ⟨k, hk⟩ := h'.choose_spec
  exact whN_one hk h
theorem whileM_sat {c : M Bool} {b : M Fl} {ρ : Rho} {P : Fl → Rho → Prop} {Z : Exn → Rho → Prop} (h : (whileM c b ρ).sat P Z) : ∃ n r, whN c b n ρ = some r ∧ r.sat P Z := by
  unfold whileM at h
  split at h
  · rename_i h'
    obtain ⟨k, hk⟩ := h'.choose_spec
    exact ⟨k, _, hk, h⟩
  · exact h.elim
/-- one turn -/
theorem whileM_step {c : M Bool} {b : M Fl} {ρ : Rho} : whileM c b ρ = (match c ρ with
    | .ok false ρ1 => .ok .nx ρ1
    | .ok true ρ1 => (match b ρ1 with
      | .ok .nx ρ2 => whileM c b ρ2
      | .ok .ct ρ2 => whileM c b ρ2
      | .ok .bk ρ2 => .ok .nx ρ2
      | r => r)
    | .exc e ρ1 => .exc e ρ1
    | .no => .no) := by
  by_cases h : ∃ r, ∃ n, whN c b n ρ = some r
  · obtain ⟨r, n, hn⟩ := h
    rw [whileM_of hn]
    cases n with
    | zero => cases hn
    | succ n =>
      unfold whN at hn
      cases ec : c ρ with
      | ok t ρ1 =>
        rw [ec] at hn
        cases t with
        | false => exact (Option.some.inj hn).symm
        | true =>
          dsimp only at hn ⊢
          cases eb : b ρ1 with
          | ok fl ρ2 =>
            rw [eb] at hn
            cases fl with
            | nx => exact (whileM_of hn).symm
            | ct => exact (whileM_of hn).symm
            | bk => exact (Option.some.inj hn).symm
            | rt d => exact (Option.some.inj hn).symm
          | exc e ρ2 => rw [eb] at hn; exact (Option.some.inj hn).symm
          | no => rw [eb] at hn; exact (Option.some.inj hn).symm
      | exc e ρ1 => rw [ec] at hn; exact (Option.some.inj hn).symm
      | no => rw [ec] at hn; exact (Option.some.inj hn).symm
  · have e0 : whileM c b ρ = .no := by unfold whileM; rw [dif_neg h]
    rw [e0]
    have no : ∀ n r, whN c b n ρ ≠ some r := fun n r q => h ⟨r, n, q⟩
    cases ec : c ρ with
    | ok t ρ1 =>
      cases t with
      | false => exact absurd (show whN c b 1 ρ = _ by unfold whN; rw [ec]) (no 1 _)
      | true =>
        dsimp only
        have sub : ∀ {ρ2 : Rho}, (∀ n, whN c b (n + 1) ρ = whN c b n ρ2) → whileM c b ρ2 = .no := fun {ρ2} e => by
          unfold whileM
          rw [dif_neg]
          rintro ⟨r, n, q⟩
          exact no (n + 1) r ((e n).trans q)
        cases eb : b ρ1 with
        | ok fl ρ2 =>
          cases fl with
          | nx => exact (sub fun n => by rw [whN, ec]; dsimp only; rw [eb]).symm
          | ct => exact (sub fun n => by rw [whN, ec]; dsimp only; rw [eb]).symm
          | bk => exact absurd (show whN c b 1 ρ = _ by rw [whN, ec]; dsimp only; rw [eb]) (no 1 _)
          | rt d => exact absurd (show whN c b 1 ρ = _ by rw [whN, ec]; dsimp only; rw [eb]) (no 1 _)
        | exc e ρ2 => exact absurd (show whN c b 1 ρ = _ by rw [whN, ec]; dsimp only; rw [eb]) (no 1 _)
        | no => rfl
    | exc e ρ1 => exact absurd (show whN c b 1 ρ = _ by unfold whN; rw [ec]) (no 1 _)
    | no => rfl
theorem ds_while {cnd : Expr} {body : List Stmt} {mc : M Bool} {mb : M Fl} (wk : Wk ω C.ωe) (hp : PassesOwn (model X.prog X.w) X.A X.env X.xe) (hc : DT X C.W ω cnd mc) (hb : DSs X (C.at_ ω) ω body ω mb) : DS X C ω (.While cnd body [] pos) ω (whileM mc mb) :=
  PS.imp (ps_while hp hc hb) fun D σ H ⟨F, G, ρ, S, q⟩ => by
    obtain ⟨n0, r0, h0, q⟩ := whileM_sat q
    refine ⟨fun n σ H => ∃ F1 ρ1 r, Le F F1 ∧ Sim X.K ω F1 G H ρ1 σ ∧ whN mc mb n ρ1 = some r ∧ r.sat (wantS X.K C ω F1 G D) (zS X.K X.mg C F1 G), ⟨n0, F, ρ, r0, Le.refl _, S, h0, q⟩, ?_⟩
    rintro n σ1 H1 ⟨F1, ρ1, r, l1, S1, h1, q1⟩
    cases n with
    | zero => cases h1
    | succ n =>
      unfold whN at h1
      refine ⟨F1, G, ρ1, S1, ?_⟩
      cases ec : mc ρ1 with
      | ok t ρ2 =>
        rw [ec] at h1
        refine fun F2 H2 l2 S2 => ?_
        cases t with
        | false =>
          cases h1
          exact q1 σ1 F2 H2 l2 S2
        | true =>
          dsimp only at h1
          refine ⟨fun σ' H' => ∃ F3 ρ3 r, Le F F3 ∧ Sim X.K ω F3 G H' ρ3 σ' ∧ whN mc mb n ρ3 = some r ∧ r.sat (wantS X.K C ω F3 G D) (zS X.K X.mg C F3 G), fun σ' H' z => ⟨n, Nat.lt_succ_self _, z⟩, F2, G, ρ2, S2, ?_⟩
          cases eb : mb ρ2 with
          | ok fl ρ3 =>
            rw [eb] at h1
            cases fl with
            | nx => exact fun σ' F' H' l' S' => ⟨F', ρ3, r, l1.trans (l2.trans l'), S', h1, Res.sat_mono q1 (fun _ _ z => z.le (l2.trans l')) fun _ _ z => z.le (l2.trans l')⟩
            | ct => exact fun σ' F' H' l' S' => ⟨F', ρ3, r, l1.trans (l2.trans l'), S', h1, Res.sat_mono q1 (fun _ _ z => z.le (l2.trans l')) fun _ _ z => z.le (l2.trans l')⟩
            | bk => cases h1; exact fun σ' F' H' l' S' => q1 σ' F' H' (l2.trans l') S'
            | rt d => cases h1; exact fun v F' H' l' S' => q1 v F' H' (l2.trans l') S'
          | exc x ρ3 => rw [eb] at h1; cases h1; exact zS.le (C := C) l2 q1
          | no => rw [eb] at h1; cases h1; exact q1.elim
      | exc x ρ2 => rw [ec] at h1; cases h1; exact zS.zx wk q1
      | no => rw [ec] at h1; cases h1; exact q1.elim
end
end DL
/-! DL: list comprehensions; slices; what is owned, read. -/
namespace DL
open PySem PySem.Spec PyProof.Rows L2
/-- the block's own names forgotten -/
def wipeR (ρ : Rho) : List Nat → Rho
  | [] => ρ
  | v :: vs => (wipeR ρ vs).set v none
/-- .. and as they were -/
def restR (ρ0 : Rho) (ρ : Rho) : List Nat → Rho
  | [] => ρ
  | v :: vs => (restR ρ0 ρ vs).set v (ρ0.getD v none)
def restS (σ0 : L2.St) (σ : L2.St) : List Nat → L2.St
  | [] => σ
  | v :: vs => (restS σ0 σ vs).set v (σ0.getD v none)
theorem restS_wipe (σ : L2.St) : ∀ vs : List Nat, restS σ (wipe σ vs) vs = σ := by
  have key : ∀ vs ws : List Nat, (∀ i, i ∉ ws → (wipe σ ws)[i]? = σ[i]?) → ∀ i, (restS σ (wipe σ ws) vs)[i]? = if i ∈ vs then σ[i]? else (wipe σ ws)[i]? := by
    intro vs
    induction vs with
    | nil => intro ws h i; simp [restS]
    | cons v vs ih =>
      intro ws h i
      have ihi := ih ws h
      have len : ∀ vs, (restS σ (wipe σ ws) vs).length = σ.length := by
        intro vs
        induction vs with
        | nil => exact wipe_length σ ws
        | cons v vs ih => simpa [restS] using ih
      show ((restS σ (wipe σ ws) vs).set v (σ.getD v none))[i]? = _
      by_cases hv : v = i
      · subst hv
        rw [if_pos (List.mem_cons_self)]
        by_cases hl : v < σ.length
        · rw [List.getElem?_set_self (by rw [len]; exact hl)]
          simp [hl]
        · rw [List.getElem?_eq_none (by simpa [len] using hl), List.getElem?_eq_none (by simpa using hl)]
      · rw [List.getElem?_set_ne hv, ihi i]
        by_cases hi : i ∈ vs
        · rw [if_pos hi, if_pos (List.mem_cons_of_mem _ hi)]
        · rw [if_neg hi, if_neg (fun z => by rcases List.mem_cons.mp z with z | z; exact hv z.symm; exact hi z)]
  intro vs
  apply List.ext_getElem?
  intro i
  rw [key vs vs (fun i hi => wipe_out hi) i]
  by_cases hi : i ∈ vs
  · rw [if_pos hi]
  · rw [if_neg hi, wipe_out hi]
section
variable {K : Fg} {ω : List Sh} {F F' G H H' : Hp} {ρ : Rho} {σ : L2.St}
theorem Sim.wipe (S : Sim K ω F G H ρ σ) : ∀ {vs : List Nat}, (∀ i ∈ vs, ω[i]? = some .fz) → Sim K ω F G H (wipeR ρ vs) (L2.wipe σ vs)
  | [], _ => S
  | v :: vs, h => (Sim.wipe S fun i m => h i (List.mem_cons_of_mem _ m)).put (h v (List.mem_cons_self)) (.inl rfl)
theorem Sim.rest {ρ' : Rho} {σ' : L2.St} {G0 : Hp} (S0 : Sim K ω F G0 H ρ σ) (l : Le F F') (S : Sim K ω F' G H' ρ' σ') : ∀ {vs : List Nat}, (∀ i ∈ vs, ω[i]? = some .fz) → Sim K ω F' G H' (restR ρ ρ' vs) (restS σ σ' vs)
  | [], _ => S
  | v :: vs, h => by
    have hv := h v (List.mem_cons_self)
    refine (Sim.rest S0 l S (vs := vs) fun i m => h i (List.mem_cons_of_mem _ m)).put hv ?_
    cases e : ρ.getD v none with
    | none => exact .inl rfl
    | some d =>
      have e' : ρ[v]? = some (some d) := by
        rw [List.getD_eq_getElem?_getD] at e
        cases q : ρ[v]? with
        | none => rw [q] at e; cases e
        | some x => rw [q] at e; simpa using e
      obtain ⟨w, ew, rw'⟩ := S0.get hv e'
      refine .inr ⟨w, d, ?_, rfl, rw'.mono l⟩
      rw [List.getD_eq_getElem?_getD, ew]; rfl
end
/-- the turns of a comprehension -/
def lcL (vs : List Nat) (t : Tg) (tt : M Bool) (te : M D) : List D → M (List D)
  | [] => pureM []
  | d :: ds => fun ρ => match t d ρ with
    | none => .no
    | some ρ1 => match tt ρ1 with
      | .ok true ρ2 => (match te ρ2 with
        | .ok y ρ3 => (match lcL vs t tt te ds (wipeR ρ3 vs) with
          | .ok ys ρ4 => .ok (y :: ys) ρ4
          | _ => .no)
        | _ => .no)
      | .ok false ρ2 => lcL vs t tt te ds (wipeR ρ2 vs)
      | _ => .no
def lcM (vs : List Nat) (ms : M (List D)) (t : Tg) (tt : M Bool) (te : M D) : M D := bindM ms fun ds ρ =>
  if ds.length ≤ sizeLine then (match lcL vs t tt te ds (wipeR ρ vs) with
    | .ok ys ρ' => .ok (.lst ys) (restR ρ ρ' vs)
    | _ => .no) else .no
abbrev W0 : WX := fun _ _ _ _ => False
def yesM : M Bool := pureM true
section
variable {X : Cx} {W : WX} {C : Sx} {ω : List Sh} {pos : Pos} {a b c e : Expr} {m m1 m2 m3 : M D} {sh : Sh}
abbrev DTs (X : Cx) (W : WX) (ω : List Sh) (es : List Expr) (m : M Bool) : Prop := PTs X es (tT X.K X.mg W ω m)
theorem dts_nil : DTs X W ω [] yesM := ⟨fun pins s σ H Q I ⟨F, q⟩ => pts_nil.run pins s σ H Q I (tTF_pure q)⟩
theorem dts_one {m : M Bool} (h : DT X W ω e m) : DTs X W ω [e] m := pts_one h
theorem Tch.wipe {vs : List Nat} {σ σ' : L2.St} (t : Tch vs σ σ') : L2.wipe σ' vs = L2.wipe σ vs := by
  apply List.ext_getElem?
  intro i
  by_cases hi : i ∈ vs
  · have key : ∀ (τ : L2.St) (ws : List Nat), i ∈ ws → (L2.wipe τ ws)[i]? = if i < τ.length then some none else none := by
      intro τ ws
      induction ws with
      | nil => intro h; cases h
      | cons w ws ih =>
        intro h
        show ((L2.wipe τ ws).set w none)[i]? = _
        by_cases hw : w = i
        · subst hw
          by_cases hl : w < τ.length
          · rw [if_pos hl, List.getElem?_set_self (by rw [wipe_length]; exact hl)]
          · rw [if_neg hl, List.getElem?_eq_none (by rw [List.length_set, wipe_length]; omega)]
        · rw [List.getElem?_set_ne hw]
          exact ih ((List.mem_cons.mp h).resolve_left fun z => hw z.symm)
    rw [key _ _ hi, key _ _ hi, t.1]
  · rw [wipe_out hi, wipe_out hi, t.2 i hi]
/-- the reading of a comprehension -/
theorem tlc {ms : M (List D)} {t : Tg} {tt : M Bool} {te : M D} {vs : List Nat} (hv : ∀ i ∈ vs, ω[i]? = some .fz) {σ : L2.St} {H : Hp} {Q : VK} (h : tM X.K X.mg W ω (.lst .fz) (lcM vs ms t tt te) σ H Q) :
    tLc (tI X.K X.mg W ω ms) (tGD X.K ω vs t) (tT X.K X.mg W0 ω tt) (tM X.K X.mg W0 ω .fz te) vs σ H Q := by
  obtain ⟨F, G, ρ, S, q⟩ := h
  refine ⟨F, G, ρ, S, Res.sat_mono (Res.sat_bind q) (fun ds ρ1 p J F1 H1 l S1 wl D nD => ?_) fun _ _ z => z⟩
  by_cases hz : ds.length ≤ sizeLine
  · rw [if_pos hz] at p
    -- what is to hold between two turns
    refine ⟨fun i n H2 => n = ds.length - i ∧ i ≤ ds.length ∧ ∃ F2 ρ2 ys zs ρ3, Le F1 F2 ∧ Sim X.K (.lst .fz :: ω) F2 G H2 (some (.lst ys) :: ρ2) (some (.ref D) :: L2.wipe σ vs) ∧ ys.length ≤ i ∧
      lcL vs t tt te (ds.drop i) ρ2 = .ok zs ρ3 ∧ ∀ F' H' , Le F1 F' → Sim X.K (.lst .fz :: ω) F' G H' (some (.lst (ys ++ zs)) :: restR ρ1 ρ3 vs) (some (.ref D) :: σ) → Q (.ref D) H', ⟨ds.length, ?_⟩, ?_⟩
    · cases el : lcL vs t tt te ds (wipeR ρ1 vs) with
      | ok ys ρ2 =>
        rw [el] at p
        have SD := (S1.wipe hv).new (o := .lst []) nD
        refine ⟨by simp, Nat.zero_le _, F1, wipeR ρ1 vs, [], ys, ρ2, Le.refl _, ?_, Nat.le_refl _, el, fun F' H' l' S' => p _ F' H' (l.trans l') S'⟩
        -- the new list is owned
        obtain ⟨⟨fp, o, n⟩, a, b, dj⟩ := S1.wipe hv
        have fD : F1 D = none := a.none nD
        have gD : G D = none := b.none nD
        refine ⟨⟨[D] ++ fp, .bd (.lst upd_same (Owns.of_rds .nil) (fun z => by cases z)) (o.mono (Le.refl _) fun x m u e => by rw [upd_ne (ne_of_none e nD)]; exact e) fun x m z => ?_, fun x m => ?_⟩, fun x u e => ?_, fun x u e => ?_, dj⟩
        · have : x = D := by simpa using m
          subst this
          obtain ⟨u, e⟩ := o.live x z
          rw [nD] at e; cases e
        · rcases List.mem_append.mp m with m | m
          · have : x = D := by simpa using m
            subst this; exact ⟨fD, gD⟩
          · exact n x m
        · rw [upd_ne (ne_of_none e fD)]; exact a x u e
        · exact b.trans (Le.upd nD) x u e
      | exc x ρ2 => rw [el] at p; exact p.elim
      | no => rw [el] at p; exact p.elim
    · rintro i n H2 ⟨rfl, hi, F2, ρ2, ys, zs, ρ3, l2, S2, hy, el, fin⟩
      by_cases hlt : i < ds.length
      · have ed : ds.drop i = ds[i] :: ds.drop (i + 1) := List.drop_eq_getElem_cons hlt
        rw [ed] at el
        unfold lcL at el
        refine .inr ⟨wl.go F2 H2 i l2 S2.fH hlt, fun H' => ∃ F3 ρ2 ys zs ρ3, Le F1 F3 ∧ Sim X.K (.lst .fz :: ω) F3 G H' (some (.lst ys) :: ρ2) (some (.ref D) :: L2.wipe σ vs) ∧ ys.length ≤ i + 1 ∧
          lcL vs t tt te (ds.drop (i + 1)) ρ2 = .ok zs ρ3 ∧ ∀ F' H' , Le F1 F' → Sim X.K (.lst .fz :: ω) F' G H' (some (.lst (ys ++ zs)) :: restR ρ1 ρ3 vs) (some (.ref D) :: σ) → Q (.ref D) H',
          fun H' z => ⟨ds.length - (i + 1), by omega, rfl, hlt, z⟩, fun x H3 y => ?_⟩
        obtain ⟨F3, gr, rd⟩ := wl.yld F2 H2 i x H3 ds[i] l2 S2.fH (by simp [hlt]) y
        obtain ⟨G', S3, back⟩ := (S2.gr gr).hide
        cases et : t ds[i] ρ2 with
        | none => rw [et] at el; cases el
        | some ρ4 =>
          rw [et] at el
          dsimp only at el
          refine ⟨F3, G', ρ2, _, ρ4, rd, S3, et, fun σ4 F4 H4 tc l4 S4 => ⟨by rw [tc.wipe]; exact (Tch.wipe (vs := vs) (σ := σ) ⟨wipe_length σ vs, fun j hj => wipe_out hj⟩), ?_⟩⟩
          have wσ : L2.wipe σ4 vs = L2.wipe σ vs := by rw [tc.wipe]; exact (Tch.wipe (vs := vs) (σ := σ) ⟨wipe_length σ vs, fun j hj => wipe_out hj⟩)
          refine ⟨F4, G', ρ4, S4, ?_⟩
          cases eb : tt ρ4 with
          | ok k ρ5 =>
            rw [eb] at el
            refine fun F5 H5 l5 S5 => ?_
            cases k with
            | true =>
              dsimp only at el
              rw [if_pos rfl]
              refine ⟨F5, G', ρ5, S5, ?_⟩
              cases ee : te ρ5 with
              | ok yd ρ6 =>
                rw [ee] at el
                dsimp only at el
                refine fun v F6 H6 l6 S6 => ?_
                obtain ⟨rv, S7⟩ := S6.top
                have l36 : Le F3 F6 := l4.trans (l5.trans l6)
                have S8 := back l36 S7
                obtain ⟨aD, acc, eD, hD, ra, up⟩ := S8.lst (i := 0) (s := .lst .fz) rfl rfl rfl
                have : aD = D := by
                  have q : (some (V.ref D) :: σ4)[0]? = some (some (V.ref D)) := rfl
                  rw [q] at eD
                  cases eD; rfl
                subst this
                cases er : lcL vs t tt te (ds.drop (i + 1)) (wipeR ρ6 vs) with
                | ok zs' ρ7 =>
                  rw [er] at el
                  cases el
                  refine ⟨acc, hD, by rw [ra.length]; omega, F6, wipeR ρ6 vs, ys ++ [yd], zs', _, l2.trans (gr.lf.trans l36), ?_, by rw [List.length_append]; simp; omega, er, fun F' H' l' S' => fin F' H' l' (by simpa using S')⟩
                  have S9 := up F6 H6 (acc ++ [v]) (ys ++ [yd]) (Gr.refl S7.fH) (ra.append (.cons rv .nil))
                  have S9' : Sim X.K (.lst .fz :: ω) F6 G (upd H6 aD (.lst (acc ++ [v]))) (some (.lst (ys ++ [yd])) :: ρ6) (some (.ref aD) :: σ4) := S9
                  have := Sim.wipe (vs := vs.map (· + 1)) S9' (fun j hj => by
                    obtain ⟨k, hk, rfl⟩ := List.mem_map.mp hj
                    simpa using hv k hk)
                  rw [← wσ]
                  have w1 : ∀ ws : List Nat, wipeR (some (D.lst (ys ++ [yd])) :: ρ6) (ws.map (· + 1)) = some (D.lst (ys ++ [yd])) :: wipeR ρ6 ws := by
                    intro ws
                    induction ws with
                    | nil => rfl
                    | cons w ws ih => show ((wipeR _ (ws.map (· + 1))).set (w + 1) none) = _; rw [ih]; rfl
                  have w2 : ∀ ws : List Nat, L2.wipe (some (V.ref aD) :: σ4) (ws.map (· + 1)) = some (V.ref aD) :: L2.wipe σ4 ws := by
                    intro ws
                    induction ws with
                    | nil => rfl
                    | cons w ws ih => show ((L2.wipe _ (ws.map (· + 1))).set (w + 1) none) = _; rw [ih]; rfl
                  rw [w1, w2] at this
                  exact this
                | exc x ρ7 => rw [er] at el; cases el
                | no => rw [er] at el; cases el
              | exc x ρ6 => rw [ee] at el; cases el
              | no => rw [ee] at el; cases el
            | false =>
              dsimp only at el
              rw [if_neg Bool.false_ne_true]
              have l35 : Le F3 F5 := l4.trans l5
              have S8 := back l35 S5
              refine ⟨F5, wipeR ρ5 vs, ys, zs, ρ3, l2.trans (gr.lf.trans l35), ?_, by omega, el, fin⟩
              rw [← wσ]
              obtain ⟨G2, S9, back2⟩ := S8.hide
              exact back2 (Le.refl _) (S9.wipe hv)
          | exc x ρ5 => rw [eb] at el; cases el
          | no => rw [eb] at el; cases el
      · have e : i = ds.length := by omega
        subst e
        rw [List.drop_length] at el
        cases el
        refine .inl ⟨wl.stop F2 H2 l2 S2.fH, fin F2 H2 l2 ?_⟩
        rw [List.append_nil]
        obtain ⟨G', S3, back⟩ := S2.hide
        have S4 := S1.rest l2 S3 hv
        rw [restS_wipe] at S4
        exact back (Le.refl _) S4
  · rw [if_neg hz] at p; exact p.elim
end
end DL
/-! DL: comprehensions as rules; what is owned, read and changed by methods. -/
namespace DL
open PySem PySem.Spec PyProof.Rows L2
section
variable {X : Cx} {W : WX} {C : Sx} {ω : List Sh} {pos : Pos} {a b c e : Expr} {m m1 m2 m3 : M D} {sh : Sh}
theorem hv_nil : ∀ i ∈ ([] : List Nat), ω[i]? = some .fz := fun _ h => by cases h
theorem hv_cons {i : Nat} {vs : List Nat} (h : ω[i]? = some .fz) (hs : ∀ i ∈ vs, ω[i]? = some .fz) : ∀ j ∈ i :: vs, ω[j]? = some .fz := fun j hj => (List.mem_cons.mp hj).elim (fun e => by rw [e]; exact h) (hs j)
theorem de_lc {elt tg iter : Expr} {ifs : List Expr} {scope : Scope} {own : List (Str × Nat)} {ms : M (List D)} {t : Tg} {tt : M Bool} {te : M D} (hc : X.calm = true) (hN : X.N.Nodup) (hv : ∀ i ∈ own.map (·.2), ω[i]? = some .fz) (hi : DI X W ω tg iter ms) (ok : BlkOk X.N X.env.scope scope own)
    (hg : ∀ (s : Shared) (H : Hp) (C : Addr) (cl : List (Str × Addr)) (fp : List Addr), DG (X.blk s H scope (compEnvC scope cl C X.env) fp) ω (own.map (·.2)) tg t)
    (ht : ∀ (s : Shared) (H : Hp) (C : Addr) (cl : List (Str × Addr)) (fp : List Addr), DTs (X.blk s H scope (compEnvC scope cl C X.env) fp) W0 ω ifs tt)
    (he : ∀ (s : Shared) (H : Hp) (C : Addr) (cl : List (Str × Addr)) (fp : List Addr), DE (X.blk s H scope (compEnvC scope cl C X.env) fp) W0 ω elt .fz te) (hs : ∀ x, foldedSetIterable iter X.env x = pure x := by intro _; rfl) :
    DE X W ω (.ListComp elt [⟨tg, iter, ifs, 0⟩] scope pos) (.lst .fz) (lcM (own.map (·.2)) ms t tt te) :=
  PE.imp (pe_lc hc hN hi ok hg ht he hs) fun σ H Q q => tlc hv q
/-- name = [..] -/
theorem ds_setLc {i : Nat} {y : Str} {py spos : Pos} {elt tg iter : Expr} {ifs : List Expr} {scope : Scope} {own : List (Str × Nat)} {ms : M (List D)} {t : Tg} {tt : M Bool} {te : M D} (wk : Wk ω C.ωe) (hc : X.calm = true) (hN : X.N.Nodup) (hy : X.N[i]? = some y)
    (hyl : X.env.scope.names.lookup y = some .local) (hsw : swapsWith (.ListComp elt [⟨tg, iter, ifs, 0⟩] scope pos) (some (.Name y py)) spos.line X.env = pure true)
    (hv : ∀ i ∈ own.map (·.2), ω[i]? = some .fz) (hi : DI X C.W ω tg iter ms) (ok : BlkOk X.N X.env.scope scope own)
    (hg : ∀ (s : Shared) (H : Hp) (C : Addr) (cl : List (Str × Addr)) (fp : List Addr), DG (X.blk s H scope (compEnvC scope cl C X.env) fp) ω (own.map (·.2)) tg t)
    (ht : ∀ (s : Shared) (H : Hp) (C : Addr) (cl : List (Str × Addr)) (fp : List Addr), DTs (X.blk s H scope (compEnvC scope cl C X.env) fp) W0 ω ifs tt)
    (he : ∀ (s : Shared) (H : Hp) (C : Addr) (cl : List (Str × Addr)) (fp : List Addr), DE (X.blk s H scope (compEnvC scope cl C X.env) fp) W0 ω elt .fz te) (hs : ∀ x, foldedSetIterable iter X.env x = pure x := by intro _; rfl) :
    DS X C ω (.Assign [.Name y py] (.ListComp elt [⟨tg, iter, ifs, 0⟩] scope pos) spos) (ω.set i (.lst .fz)) (setM i (lcM (own.map (·.2)) ms t tt te)) :=
  PS.imp (ps_setLc hc hN hy hyl hsw hi ok hg ht he hs) fun D σ H q => by
    obtain ⟨F, q⟩ := tS_bind (sh := .lst .fz) wk q
    exact tlc hv ⟨F, tMF_mono q fun x H1 ⟨d, F1, G, ρ1, S, z⟩ => z _ F1 H1 (Le.refl _) (S.set i)⟩
/-! ### what changes nothing -/
def Pur {α : Type} (m : M α) : Prop := ∀ ρ, match m ρ with
  | .ok _ ρ' => ρ' = ρ
  | .exc _ _ => False
  | .no => True
theorem pur_pure {α : Type} {x : α} : Pur (pureM x) := fun _ => rfl
theorem pur_fail {α : Type} : Pur (failM : M α) := fun _ => trivial
theorem pur_lift {α : Type} {x : Option α} : Pur (liftO x) := fun ρ => by cases x <;> first | rfl | trivial
theorem pur_get {i : Nat} : Pur (getV i) := fun ρ => by
  unfold getV
  cases ρ[i]? with
  | none => trivial
  | some x => cases x <;> first | trivial | rfl
theorem pur_bind {α β : Type} {m : M α} {f : α → M β} (h : Pur m) (hf : ∀ a, Pur (f a)) : Pur (bindM m f) := fun ρ => by
  have h0 := h ρ
  unfold bindM
  cases e : m ρ with
  | ok x ρ1 =>
    rw [e] at h0
    dsimp only at h0 ⊢
    subst h0
    exact hf x ρ1
  | exc x ρ1 => rw [e] at h0; exact h0.elim
  | no => trivial
theorem pur_ite {α : Type} {c : Prop} [Decidable c] {x y : M α} (hx : Pur x) (hy : Pur y) : Pur (if c then x else y) := by split <;> assumption
def fzs (ω : List Sh) : List Sh := ω.map fun _ => .fz
theorem wk_fzs : ∀ ω : List Sh, Wk ω (fzs ω)
  | [] => .nil
  | _ :: ω => .fz (wk_fzs ω)
def flatD : D → Bool
  | .non => true
  | .bl _ => true
  | .int _ => true
  | .str _ => true
  | .ty _ => true
  | _ => false
theorem RD.flat {K : Fg} {F F' : Hp} {v : V} {d : D} (r : RD K F v d) (h : flatD d = true) : RD K F' v d := by
  cases r with
  | non => exact .non
  | bl b => exact .bl b
  | int b => exact .int b
  | str b => exact .str b
  | ty b => exact .ty b
  | _ => cases h
/-- a look at names whose data are frozen for this while -/
theorem Sim.back {K : Fg} {F F1 F2 G H H2 : Hp} {ρ : Rho} {σ : L2.St} (S : Sim K ω F G H ρ σ) (S1 : Sim K (fzs ω) F1 G H ρ σ) (cover : ∀ fp, OwnL K F H ω σ ρ fp → ∀ a ∈ fp, ∀ o, H a = some o → F1 a = some o) (lF : Le F F1) (l : Le F1 F2) (gH2 : LeG K G H2) (fH2 : Le F2 H2) : Sim K ω F G H2 ρ σ := by
  obtain ⟨⟨fp, o, n⟩, a, b, dj⟩ := S
  exact ⟨⟨fp, o.mono (Le.refl _) fun x m u e => fH2 x u (l x u (cover fp o x m u e)), n⟩, lF.trans (l.trans fH2), gH2, dj⟩
theorem OwnL.fzs {K : Fg} {F H : Hp} {ρ : Rho} {σ : L2.St} {fp : List Addr} (o : OwnL K F H ω σ ρ fp) (n : ∀ a ∈ fp, F a = none) : OwnL K (withH F H fp) H (DL.fzs ω) σ ρ [] := by
  have key : ∀ {F' : Hp}, Le F F' → (∀ a ∈ fp, ∀ u, H a = some u → F' a = some u) → OwnL K F' H (DL.fzs ω) σ ρ [] := by
    intro F' l k
    clear n
    induction o with
    | nil => exact .nil
    | un o ih => exact .un (ih k)
    | bd w o nn ih =>
      exact OwnL.bd (fp := []) (.fz (w.rd l fun a m => k a (List.mem_append_left _ m))) (ih fun a m => k a (List.mem_append_right _ m)) (fun _ m => by cases m)
  exact key (withH_le n) fun a m u e => by rw [withH_in m]; exact e
theorem Sim.frozen {K : Fg} {F G H : Hp} {ρ : Rho} {σ : L2.St} (S : Sim K ω F G H ρ σ) : ∃ F1, Le F F1 ∧ Sim K (fzs ω) F1 G H ρ σ ∧ ∀ F2 H2, Le F1 F2 → Le F2 H2 → LeG K G H2 → Sim K ω F G H2 ρ σ := by
  obtain ⟨⟨fp, o, n⟩, a, b, dj⟩ := S
  refine ⟨withH F H fp, withH_le fun x m => (n x m).1, ⟨⟨[], o.fzs fun x m => (n x m).1, fun _ m => by cases m⟩, withH_sub a, b, ⟨fun x q => ?_, dj.2⟩⟩, fun F2 H2 l l2 g => ?_⟩
  · rw [withH_out fun m => q (n x m).2]; exact dj.1 x q
  · exact ⟨⟨fp, o.mono (Le.refl _) fun x m u e => l2 x u (l x u (by rw [withH_in m]; exact e)), n⟩, (withH_le fun x m => (n x m).1).trans (l.trans l2), g, dj⟩
def flatM (m : M D) : M D := bindM m fun d => if flatD d = true then pureM d else failM
theorem de_borrow (h : DE X W (fzs ω) e .fz m) (p : Pur m) : DE X W ω e .fz (flatM m) := PE.imp h fun σ H Q ⟨F, G, ρ, S, q⟩ => by
  obtain ⟨F1, l1, S1, back⟩ := S.frozen
  refine ⟨F1, G, ρ, S1, ?_⟩
  have p0 := p ρ
  have q1 := Res.sat_bind q
  cases e : m ρ with
  | ok d ρ1 =>
    rw [e] at p0 q1
    have p0 : ρ1 = ρ := p0
    subst p0
    refine fun v F2 H2 l2 S2 => ?_
    obtain ⟨r, S3⟩ := S2.top
    have q2 : ((if flatD d = true then pureM d else failM : M D) ρ1).sat _ _ := q1
    by_cases hf : flatD d = true
    · rw [if_pos hf] at q2
      exact q2 v F H2 (Le.refl _) ((back F2 H2 l2 S3.fH S3.gH).push (r.flat hf))
    · rw [if_neg hf] at q2; exact q2.elim
  | exc x ρ1 => rw [e] at p0; exact p0.elim
  | no => rw [e] at q1; exact q1.elim
theorem dt_borrow {mt : M Bool} (h : DT X W (fzs ω) e mt) (p : Pur mt) : DT X W ω e mt := PT.imp h fun σ H Q ⟨F, G, ρ, S, q⟩ => by
  obtain ⟨F1, l1, S1, back⟩ := S.frozen
  refine ⟨F1, G, ρ, S1, ?_⟩
  have p0 := p ρ
  cases e : mt ρ with
  | ok d ρ1 =>
    rw [e] at p0 q
    have p0 : ρ1 = ρ := p0
    subst p0
    exact fun F2 H2 l2 S2 => q F H2 (Le.refl _) (back F2 H2 l2 S2.fH S2.gH)
  | exc x ρ1 => rw [e] at p0; exact p0.elim
  | no => rw [e] at q; exact q.elim
/-! ### an owned list: an item, append, pop -/
def atO (i : Nat) (k : D) : M D := fun ρ => match ρ[i]? with
  | some (some (.lst xs)) => (match k with
    | .int j => (match atI xs j with
      | some d => .ok d ρ
      | none => .no)
    | _ => .no)
  | _ => .no
def ixoM (i : Nat) (mk : M D) : M D := bindM (chkM i) fun _ => bindM mk (atO i)
theorem chkM_ok {i : Nat} {ρ : Rho} {P : D → Rho → Prop} {Z : Exn → Rho → Prop} (h : (chkM i ρ).sat P Z) : ∃ ds, ρ[i]? = some (some (.lst ds)) ∧ P .non ρ := by
  unfold chkM at h
  split at h
  · rename_i ds e; exact ⟨ds, e, h⟩
  · exact h.elim
theorem de_ixo {i : Nat} {x : Str} {p' : Pos} {ix : Expr} {mk : M D} {s : Sh} (h1 : ω[i]? = some s) (hs : coreSh s = .lst .fz) (hv : PE X (.Name x p') (tVar i)) (hk : DE X W ω ix .fz mk) (hp : PlainIx ix) : DE X W ω (.Subscript (.Name x p') ix pos) .fz (ixoM i mk) :=
  PE.imp (pe_ix ix_list hv hk hp) fun σ H Q ⟨F, G, ρ, S, q⟩ => by
    obtain ⟨ds, e0, q⟩ := chkM_ok (Res.sat_bind q)
    obtain ⟨al, xs, ea, _⟩ := S.lst h1 hs e0
    refine ⟨_, ea, F, G, ρ, S, Res.sat_mono (Res.sat_bind q) (fun k ρ1 p v F1 H1 l S1 => ?_) fun _ _ z => z⟩
    obtain ⟨rk, S2⟩ := S1.top
    unfold atO at p
    split at p
    · rename_i ds1 e1
      split at p
      · rename_i j
        cases rk
        obtain ⟨al', xs', ea', hx, rs, _⟩ := S2.lst h1 hs e1
        rw [ea] at ea'
        cases ea'
        cases eat : atI ds1 j with
        | none => rw [eat] at p; exact p.elim
        | some d =>
          rw [eat] at p
          obtain ⟨w, ew, rw'⟩ := rs.at eat
          exact ⟨al, xs', j, w, rfl, rfl, SqL.of hx, ew, p w F1 H1 l (S2.push rw')⟩
      · exact p.elim
    · exact p.elim
def appO (d : D) (xs : List D) : Option (List D) := if xs.length < sizeLine then some (xs ++ [d]) else none
def appM' (i : Nat) (m : M D) : M Fl := bindM (chkM i) fun _ => bindM m fun d => updM i (appO d)
theorem ds_append {i : Nat} {x : Str} {p' apos cpos : Pos} {s : Sh} (wk : Wk ω C.ωe) (h1 : ω[i]? = some s) (hs : coreSh s = .lst .fz) {r : V → List V → Hp → VK → Prop}
    (hx : PS X (.Expr (.Call (.Attribute (.Name x p') "append" apos) [e] [] cpos) pos) (tDrop (tBM X.K "list" rAppend (tVar i) (tCons (tM X.K X.mg C.W ω .fz m) tNil)))) : DS X C ω (.Expr (.Call (.Attribute (.Name x p') "append" apos) [e] [] cpos) pos) ω (appM' i m) :=
  PS.imp hx fun D σ H ⟨F, G, ρ, S, q⟩ => by
    obtain ⟨ds, e0, q⟩ := chkM_ok (Res.sat_bind q)
    obtain ⟨al, xs, ea, hx0, _⟩ := S.lst h1 hs e0
    refine ⟨_, ea, .inl ⟨rfl, xs, SqL.of hx0⟩, F, G, ρ, S, Res.sat_mono (Res.sat_bind q) (fun d ρ1 p v F1 H1 l S1 => ?_) fun _ _ z => z.zx wk⟩
    obtain ⟨rd, S2⟩ := S1.top
    unfold updM at p
    split at p
    · rename_i ds1 e1
      split at p
      · rename_i ys ey
        unfold appO at ey
        split at ey
        · rename_i hl
          cases ey
          obtain ⟨al', xs', ea', hx, rs, up⟩ := S2.lst h1 hs e1
          rw [ea] at ea'
          cases ea'
          exact ⟨al, xs', v, rfl, rfl, hx, by rw [rs.length]; exact hl, p σ F1 _ l (up F1 H1 _ _ (Gr.refl S2.fH) (rs.append (.cons rd .nil)))⟩
        · cases ey
      · exact p.elim
    · exact p.elim
/-- xs.pop(), xs.pop(0) -/
def popO (xs : List D) : Option (D × List D) := match xs[xs.length - 1]? with
  | some d => some (d, xs.dropLast)
  | none => none
def popAtO (j : Int) (xs : List D) : Option (D × List D) := if -(2 ^ 63) ≤ j ∧ j < 2 ^ 63 then (match ixN xs.length j with
  | some k => (match xs[k]? with
    | some d => some (d, xs.eraseIdx k)
    | none => none)
  | none => none) else none
def takeM (i : Nat) (g : List D → Option (D × List D)) : M D := fun ρ => match ρ[i]? with
  | some (some (.lst xs)) => (match g xs with
    | some (d, ys) => .ok d (ρ.set i (some (.lst ys)))
    | none => .no)
  | _ => .no
theorem RDs.dropLast {K : Fg} {F : Hp} {vs : List V} {ds : List D} (h : RDs K F vs ds) : RDs K F vs.dropLast ds.dropLast := by
  rw [List.dropLast_eq_take, List.dropLast_eq_take, h.length]; exact h.take _
theorem RDs.erase {K : Fg} {F : Hp} : ∀ {vs : List V} {ds : List D} (i : Nat), RDs K F vs ds → RDs K F (vs.eraseIdx i) (ds.eraseIdx i)
  | _, _, _, .nil => .nil
  | _, _, 0, .cons a b => b
  | _, _, i + 1, .cons a b => .cons a (RDs.erase i b)
theorem de_pop {i : Nat} {x : Str} {p' apos cpos : Pos} {s : Sh} (h1 : ω[i]? = some s) (hs : coreSh s = .lst .fz) (hx : PE X (.Call (.Attribute (.Name x p') "pop" apos) [] [] cpos) (tBM0 X.K "list" rPop (tVar i))) : DE X W ω (.Call (.Attribute (.Name x p') "pop" apos) [] [] cpos) .fz (takeM i popO) :=
  PE.imp hx fun σ H Q ⟨F, G, ρ, S, q⟩ => by
    unfold takeM at q
    split at q
    · rename_i ds e0
      obtain ⟨al, xs, ea, hx0, rs, up⟩ := S.lst h1 hs e0
      split at q
      · rename_i d ys ey
        unfold popO at ey
        split at ey
        · rename_i d' ed
          cases ey
          obtain ⟨v, ev, rv⟩ := rs.get ed
          refine ⟨_, ea, .inl ⟨rfl, xs, SqL.of hx0⟩, al, xs, v, rfl, rfl, hx0, by rw [rs.length]; exact ev, ?_⟩
          exact q v F _ (Le.refl _) ((up F H _ _ (Gr.refl S.fH) rs.dropLast).push rv)
        · cases ey
      · exact q.elim
    · exact q.elim
theorem de_popAt {i : Nat} {j : Int} {x : Str} {p' apos cpos : Pos} {ix : Expr} {s : Sh} (h1 : ω[i]? = some s) (hs : coreSh s = .lst .fz) (hx : PE X (.Call (.Attribute (.Name x p') "pop" apos) [ix] [] cpos) (tBM X.K "list" rPopAt (tVar i) (tCons (tC (.int j)) tNil))) :
    DE X W ω (.Call (.Attribute (.Name x p') "pop" apos) [ix] [] cpos) .fz (takeM i (popAtO j)) :=
  PE.imp hx fun σ H Q ⟨F, G, ρ, S, q⟩ => by
    unfold takeM at q
    split at q
    · rename_i ds e0
      obtain ⟨al, xs, ea, hx0, rs, up⟩ := S.lst h1 hs e0
      split at q
      · rename_i d ys ey
        unfold popAtO at ey
        split at ey
        · rename_i hj
          split at ey
          · rename_i k ek
            split at ey
            · rename_i d' ed
              cases ey
              obtain ⟨v, ev, rv⟩ := rs.get ed
              refine ⟨_, ea, .inl ⟨rfl, xs, SqL.of hx0⟩, al, xs, j, k, v, rfl, rfl, hx0, hj.1, hj.2, (ixN_seq (by rw [rs.length]; exact ek)).1, ev, ?_⟩
              exact q v F _ (Le.refl _) ((up F H _ _ (Gr.refl S.fH) (rs.erase k)).push rv)
            · cases ey
          · cases ey
        · cases ey
      · exact q.elim
    · exact q.elim
end
end DL
/-! DL: defs: what a def is worth, by its body; its calls; the law's end. -/
namespace DL
open PySem PySem.Spec PyProof.Rows L2
/-- a def's promise, wherever no repr is under way -/
structure FnG (P : Program) (w : World) (K : Fg) (mg : Str → Option Value) (base : Heap) (k : Nat) (f : Addr) (fd : FuncData) (ps : List Str) (sp : Sp) : Prop where
  len : ∀ vs H Q E, sp vs H Q E → vs.length = ps.length
  run : ∀ (A : Around) (outer : List Env) (s : Shared) (H : Hp) (args : Args) (us : List Value) (vs : List V) (Q : VK) (E : XK), Room k A → A.guards = some [] → Env0 P w K mg base A outer s H →
    BindsTo s fd args (ps.zip us) → Vals vs us → sp vs H Q E → codeAny (model P w) A (.call (.ref f) args) (CR (L2.CX P w) outer P w H s Q E) s
theorem FnG.mono {P : Program} {w : World} {K : Fg} {mg : Str → Option Value} {base : Heap} {j k : Nat} {f : Addr} {fd : FuncData} {ps : List Str} {sp : Sp} (F : FnG P w K mg base j f fd ps sp) (h : j ≤ k) : FnG P w K mg base k f fd ps sp :=
  ⟨F.len, fun A outer s H args us vs Q E hr => F.run A outer s H args us vs Q E (hr.mono h)⟩
theorem FnOk.toG {P : Program} {w : World} {K : Fg} {mg : Str → Option Value} {base : Heap} {k : Nat} {f : Addr} {fd : FuncData} {ps : List Str} {sp : Sp} (F : FnOk P w K mg base (L2.CX P w) k f fd ps sp) : FnG P w K mg base k f fd ps sp :=
  ⟨F.len, fun A outer s H args us vs Q E hr _ => F.run A outer s H args us vs Q E hr⟩
section
variable {P : Program} {w : World} {K : Fg} {mg : Str → Option Value} {base : Heap} {k : Nat} {f : Addr} {N ps : List Str} {sp : Sp}
/-- a def keeps its promise, by its body -/
theorem fnG {x qual : Str} {st : Stmt} {fd : FuncData} (Fn : Fun K x qual st f fd) (S : FnScope N ps (defScope st)) (len : ∀ vs H Q E, sp vs H Q E → vs.length = ps.length)
    (hb : ∀ (cdv : Value) (A : Around) (outer : List Env) (s : Shared) (H : Hp) (vs : List V) (Q : VK) (E : XK), Room k (A.deeper (envOfC qual (defScope st) s.heap.objs.size f cdv)) → A.guards = some [] → sp vs H Q E →
      ∃ t, PSs (cxOf (L2.CX P w) P w K mg base N qual (defScope st) f cdv A outer s H E) (defBody st) t ∧ t { nx := fun _ H' => Q .non H', rt := Q } (start N vs) H) : FnG P w K mg base (k + 1) f fd ps sp := by
  obtain ⟨oc, od, kV, doc, pm, an, cdv, ct, osl, rfl, lk, hcd⟩ := Fn.ex
  refine ⟨len, fun A outer s H args us vs Q E room gd en bt rv want => ?_⟩
  have inK : K.In s.heap := en.mod.kin.keeps fun b o e => (en.bs b o e).1
  obtain ⟨t, body, reads⟩ := hb cdv A outer s H vs Q E (room.deeper _) gd want
  have kinds : ∀ y ∈ ps.zip us, (defScope st).names.lookup y.1 = some .local ∨ ((defScope st).names.lookup y.1 = some .cell ∧ ((cellsFrom (s.heap.objs.size + 1) (defScope st).names []).lookup y.1).isSome = true) := by
    rintro ⟨n, v⟩ hy
    exact (S.par n (List.of_mem_zip hy).1).imp id fun q => ⟨q, PySem.W.cellsFrom_some _ _ _ (.inl q)⟩
  refine codeAny_call_function room.depth (inK _ _ lk) rfl S.co S.gen rfl (PySem.W.codeRec_of inK hcd) (bt _ _ _ _ (wpAny_newFunctionEnv_cells S.kind kinds fun env he s1 x => ?_))
  subst he
  refine ⟨(en.mod.nolimit.keeps fun b o e => (en.bs b o e).1).keeps x.toInCall.keep, codeAny_func (wpAny_mono (body.run [] s1 (start N vs) H _ (inv_start S room.hd en (len _ _ _ _ want) rv x) reads) (fun fl s' hs => ?_) fun _ _ z => z)⟩
  cases fl with
  | next =>
    obtain ⟨σ', H', J, q⟩ := hs
    exact ⟨.non, H', J.os, J.bare, J.base, J.hok, rfl, q⟩
  | ret u =>
    obtain ⟨v, σ', H', J, r, q⟩ := hs
    exact ⟨v, H', J.os, J.bare, J.base, J.hok, r, q⟩
  | brk => exact hs.elim fun _ z => z.elim fun _ z => z.2.elim
  | cont => exact hs.elim fun _ z => z.elim fun _ z => z.2.elim
end
/-! ### the promises by data -/
/-- frozen arguments; the answer of shape rs -/
def spF (K : Fg) (mg : Str → Option Value) (np : Nat) (rs : Sh) (f : List D → Res D) : Sp := fun vs H Q E => vs.length = np ∧ ∃ F G ds, RDs K F vs ds ∧ Le F H ∧ LeG K G H ∧ Dj K F G ∧
  (f ds).sat (fun d _ => ∀ v F' H', Le F F' → Sim K [rs] F' G H' [some d] [some v] → Q v H')
    fun e _ => ∀ F' H' cls dx, Le F F' → Le F' H' → LeG K G H' → Dj K F' G → ExIs K mg F' H' e cls dx → E cls dx H'
/-- .. the first argument a list that the caller owns -/
def spP (K : Fg) (mg : Str → Option Value) (np : Nat) (rs : Sh) (f : List D → Res D) : Sp := fun vs H Q E => vs.length = np + 1 ∧ ∃ F G a xs vs' ds ds', vs = .ref a :: vs' ∧ H a = some (.lst xs) ∧ F a = none ∧ G a = none ∧ RDs K F xs ds ∧ RDs K F vs' ds' ∧
  Le F H ∧ LeG K G H ∧ Dj K F G ∧
  (f (.lst ds :: ds')).sat (fun d ρo => ∀ v F' H', Le F F' → Sim K [rs, .pin a (.lst .fz)] F' G H' (some d :: ρo) [some v, some (.ref a)] → Q v H')
    fun e _ => ∀ F' H' cls dx, Le F F' → Le F' H' → LeG K G H' → Dj K F' G → ExIs K mg F' H' e cls dx → E cls dx H'
/-- the body b run at the arguments -/
def runB (n : Nat) (shs : List Sh) (thru : Bool) (b : M Fl) (ds : List D) : Res D := match b (ds.map some ++ List.replicate (n - ds.length) none) with
  | .ok (.rt d) ρ => .ok d (keep shs ρ)
  | .ok .nx ρ => if thru = true then .ok .non (keep shs ρ) else .no
  | .exc e _ => .exc e []
  | _ => .no
theorem runB_sat {n : Nat} {shs : List Sh} {thru : Bool} {b : M Fl} {ds : List D} {P : D → Rho → Prop} {Z : Exn → Rho → Prop} (h : (runB n shs thru b ds).sat P Z) :
    (b (ds.map some ++ List.replicate (n - ds.length) none)).sat (fun fl ρ => match fl with | .rt d => P d (keep shs ρ) | .nx => thru = true ∧ P .non (keep shs ρ) | _ => False) fun e _ => Z e [] := by
  unfold runB at h
  cases e : b (ds.map some ++ List.replicate (n - ds.length) none) with
  | ok fl ρ =>
    rw [e] at h
    cases fl with
    | rt d => exact h
    | nx =>
      cases thru with
      | true => exact ⟨rfl, h⟩
      | false => exact h.elim
    | bk => exact h.elim
    | ct => exact h.elim
  | exc x ρ => rw [e] at h; exact h
  | no => rw [e] at h; exact h.elim
theorem OwnL.rds {K : Fg} {F H : Hp} : ∀ {vs : List V} {ds : List D}, RDs K F vs ds → OwnL K F H (List.replicate ds.length .fz) (vs.map some) (ds.map some) []
  | _, _, .nil => .nil
  | _, _, .cons r rs => OwnL.bd (fp := []) (.fz r) (OwnL.rds rs) (fun _ m => by cases m)
theorem OwnL.app {K : Fg} {F H : Hp} {ω : List Sh} {σ : L2.St} {ρ : Rho} {fp : List Addr} (o : OwnL K F H ω σ ρ fp) (n : Nat) : OwnL K F H (ω ++ List.replicate n .fz) (σ ++ List.replicate n none) (ρ ++ List.replicate n none) fp := by
  induction o with
  | nil =>
    rw [List.nil_append, List.nil_append, List.nil_append]
    induction n with
    | zero => exact .nil
    | succ n ih => rw [List.replicate_succ, List.replicate_succ, List.replicate_succ]; exact .un ih
  | un _ ih => exact .un ih
  | bd w _ n ih => exact .bd w ih n
/-- the surroundings of a def's body -/
abbrev sxF (N : List Str) (rs : Sh) (E : XK) : Sx := ⟨fun cls d _ H => E cls d H, List.replicate N.length .fz, ⟨rs, [], [], []⟩, []⟩
abbrev sxP (N : List Str) (rs : Sh) (a : Addr) (E : XK) : Sx := ⟨fun cls d _ H => E cls d H, List.replicate N.length .fz, ⟨rs, [.lst .fz], [.pin a (.lst .fz)], [some (.ref a)]⟩, []⟩
section
variable {P : Program} {w : World} {K : Fg} {mg : Str → Option Value} {base : Heap} {k : Nat} {f : Addr} {N ps : List Str}
/-- a def whose arguments are frozen -/
theorem fnF {x qual : Str} {st : Stmt} {fd : FuncData} {rs : Sh} {ω' : List Sh} {b : M Fl} (thru : Bool) (Fn : Fun K x qual st f fd) (S : FnScope N ps (defScope st))
    (hb : ∀ (cdv : Value) (A : Around) (outer : List Env) (s : Shared) (H : Hp) (E : XK), Room k (A.deeper (envOfC qual (defScope st) s.heap.objs.size f cdv)) → A.guards = some [] →
      DSs (cxOf (L2.CX P w) P w K mg base N qual (defScope st) f cdv A outer s H E) (sxF N rs E) (List.replicate N.length .fz) (defBody st) ω' b)
    (hn : ps.length ≤ N.length := by decide) (hrs : thru = true → rs = .fz := by first | exact fun _ => rfl | exact fun z => nomatch z) :
    FnG P w K mg base (k + 1) f fd ps (spF K mg ps.length rs (runB N.length [] thru b)) := by
  refine fnG Fn S (fun vs H Q E h => h.1) fun cdv A outer s H vs Q E room gd ⟨hl, F, G, ds, r, fH, gH, dj, q⟩ => ⟨_, hb cdv A outer s H E room gd, ?_⟩
  have hds : ds.length = ps.length := by rw [← r.length]; exact hl
  refine ⟨F, G, ds.map some ++ List.replicate (N.length - ds.length) none, ⟨⟨[], ?_, fun _ m => by cases m⟩, fH, gH, dj⟩, ?_⟩
  · have o := (OwnL.rds (H := H) r).app (N.length - ds.length)
    rw [List.replicate_append_replicate, show ds.length + (N.length - ds.length) = N.length by omega] at o
    unfold L2.start
    rw [hl, ← hds]
    exact o
  · refine Res.sat_mono (runB_sat q) (fun fl ρ' z => ?_) fun e ρ' z => ?_
    · cases fl with
      | rt d => exact z
      | nx =>
        obtain ⟨ht, z⟩ := z
        cases hrs ht
        exact fun σ' F' H' l S' => z .non F' H' l (Sim.push ⟨⟨[], .nil, fun _ m => by cases m⟩, S'.fH, S'.gH, S'.dj⟩ .non)
      | bk => exact z.elim
      | ct => exact z.elim
    · exact fun σ' F' H' cls dx l S' x => z F' H' cls dx l S'.fH S'.gH S'.dj x
/-- a def whose first argument is a list that it changes for the caller -/
theorem fnP {x qual : Str} {st : Stmt} {fd : FuncData} {rs : Sh} {ω' : Addr → List Sh} {b : M Fl} {p0 : Str} {ps : List Str} (Fn : Fun K x qual st f fd) (S : FnScope N (p0 :: ps) (defScope st))
    (hb : ∀ (cdv : Value) (A : Around) (outer : List Env) (s : Shared) (H : Hp) (E : XK) (a : Addr), Room k (A.deeper (envOfC qual (defScope st) s.heap.objs.size f cdv)) → A.guards = some [] →
      DSs (cxOf (L2.CX P w) P w K mg base N qual (defScope st) f cdv A outer s H E) (sxP N rs a E) (.pin a (.lst .fz) :: List.replicate (N.length - 1) .fz) (defBody st) (ω' a) b)
    (hn : ps.length + 1 ≤ N.length := by decide) :
    FnG P w K mg base (k + 1) f fd (p0 :: ps) (spP K mg ps.length rs (runB N.length [.lst .fz] false b)) := by
  refine fnG Fn S (fun vs H Q E h => h.1) fun cdv A outer s H vs Q E room gd ⟨hl, F, G, a, xs, vs', ds, ds', ev, ha, fa, ga, rx, r, fH, gH, dj, q⟩ => ⟨_, hb cdv A outer s H E a room gd, ?_⟩
  subst ev
  have hl' : vs'.length = ps.length := by simpa using hl
  have hds : ds'.length = ps.length := by rw [← r.length]; exact hl'
  refine ⟨F, G, (.lst ds :: ds').map some ++ List.replicate (N.length - (ds'.length + 1)) none, ⟨⟨[a] ++ [], ?_, fun x m => ?_⟩, fH, gH, dj⟩, ?_⟩
  · have o := (OwnL.rds (H := H) r).app (N.length - (ds'.length + 1))
    rw [List.replicate_append_replicate, show ds'.length + (N.length - (ds'.length + 1)) = N.length - 1 by omega] at o
    unfold L2.start
    rw [hl, ← hds]
    exact OwnL.bd (.pin (.lst ha (Owns.of_rds rx) (fun z => by cases z))) o (fun _ _ z => by cases z)
  · have : x = a := by simpa using m
    subst this; exact ⟨fa, ga⟩
  · refine Res.sat_mono (runB_sat q) (fun fl ρ' z => ?_) fun e ρ' z => ?_
    · cases fl with
      | rt d => exact z
      | nx => exact absurd z.1 Bool.false_ne_true
      | bk => exact z.elim
      | ct => exact z.elim
    · exact fun σ' F' H' cls dx l S' x => z F' H' cls dx l S'.fH S'.gH S'.dj x
end
/-! ### calls -/
section
variable {K : Fg} {ω : List Sh} {F G H : Hp} {ρ : Rho} {σ : L2.St}
/-- all that the caller's names own is put aside -/
theorem Sim.aside (S : Sim K ω F G H ρ σ) : ∃ G', LeG K G' H ∧ Dj K F G' ∧
    ∀ {ω' : List Sh} {F' H' : Hp} {ρ' : Rho} {σ' : L2.St}, Le F F' → Sim K ω' F' G' H' ρ' σ' → Sim K (ω' ++ ω) F' G H' (ρ' ++ ρ) (σ' ++ σ) := by
  obtain ⟨⟨fp, o, n⟩, l, g, dj⟩ := S
  have sub : ∀ {a : Addr}, G a ≠ none → withH G H fp a ≠ none := fun {a} q => by
    by_cases m : a ∈ fp
    · exact absurd (n a m).2 q
    · rw [withH_out m]; exact q
  refine ⟨withH G H fp, g.with o.mu, dj.with g (fun a q => ?_) o.mu, fun {ω' F' H' ρ' σ'} lf S' => ?_⟩
  · by_cases m : a ∈ fp
    · exact (n a m).1
    · rw [withH_out m] at q; exact dj.1 a q
  · obtain ⟨⟨fq, o', n'⟩, l', g', dj'⟩ := S'
    have live : ∀ a ∈ fp, withH G H fp a ≠ none := fun a m => by
      obtain ⟨u, e⟩ := o.live a m
      rw [withH_in m, e]; exact fun z => nomatch z
    have o2 : OwnL K F' H' ω σ ρ fp := o.mono lf (g'.kept o.mu)
    have app : ∀ {ω' : List Sh} {σ' : L2.St} {ρ' : Rho} {fq : List Addr}, OwnL K F' H' ω' σ' ρ' fq → (∀ a ∈ fq, a ∉ fp) → ∃ fr, OwnL K F' H' (ω' ++ ω) (σ' ++ σ) (ρ' ++ ρ) fr ∧ ∀ a, a ∈ fr ↔ a ∈ fq ∨ a ∈ fp := by
      intro ω' σ' ρ' fq o'
      induction o' with
      | nil => intro _; exact ⟨fp, o2, fun a => by simp⟩
      | un _ ih => intro h; obtain ⟨fr, q, m⟩ := ih h; exact ⟨fr, .un q, m⟩
      | @bd _ _ _ _ _ _ f1 f2 w _ nn ih =>
        intro h
        obtain ⟨fr, q, m⟩ := ih fun a z => h a (List.mem_append_right _ z)
        refine ⟨f1 ++ fr, .bd w q fun a z y => ?_, fun a => ?_⟩
        · rcases (m a).mp y with y | y
          · exact nn a z y
          · exact h a (List.mem_append_left _ z) y
        · rw [List.mem_append, List.mem_append, m a]
          constructor
          · rintro (z | z | z)
            · exact .inl (.inl z)
            · exact .inl (.inr z)
            · exact .inr z
          · rintro ((z | z) | z)
            · exact .inl z
            · exact .inr (.inl z)
            · exact .inr (.inr z)
    obtain ⟨fr, q, m⟩ := app o' fun a z y => live a y (n' a z).2
    refine ⟨⟨fr, q, fun a z => ?_⟩, l', fun a u e => ?_, ⟨fun a q => dj'.1 a (sub q), dj.2⟩⟩
    · rcases (m a).mp z with z | z
      · refine ⟨(n' a z).1, ?_⟩
        cases e : G a with
        | none => rfl
        | some u => exact absurd (n' a z).2 (sub (by rw [e]; exact fun z => nomatch z))
      · exact ⟨dj'.1 a (live a z), (n a z).2⟩
    · refine g' a u ?_
      rw [withH_out fun m => by rw [(n a m).2] at e; cases e]
      exact e
end
def ofRes (r : Res D) : M D := fun ρ => match r with
  | .ok d _ => .ok d ρ
  | .exc e _ => .exc e ρ
  | .no => .no
def callM (np : Nat) (dds : List D) (g : List D → Res D) (ms : M (List D)) : M D := bindM ms fun ds => if (ds ++ dds).length = np then ofRes (g (ds ++ dds)) else failM
section
variable {X : Cx} {W : WX} {ω : List Sh} {k : Nat} {f : Addr} {fd : FuncData} {ps : List Str} {sp : Sp} {x : Str} {p pos : Pos} {e : Expr} {es : List Expr} {ms : M (List D)}
abbrev Lets (X : Cx) (W : WX) : Prop := ∀ σ, PassesAt (L2.CX X.prog X.w) X σ (fun cls d H => W cls d σ H)
/-- the callee runs -/
theorem run_g {pins : List (Addr × Obj)} {σ : L2.St} {H : Hp} {s : Shared} {Q : VK} {us us' : List Value} {kw : List (Str × Value)} {vs : List V} (Fn : FnG X.prog X.w X.K X.mg X.base k f fd ps sp) (hr : Room k X.A) (gd : X.A.guards = some []) (hx : Lets X W)
    (I : Inv X pins σ H s) (b : BindsTo s fd ⟨us, kw⟩ (ps.zip us')) (r : Vals vs us') (h : sp vs H Q fun cls d H => W cls d σ H) : wpAny (model X.prog X.w) X.A (call (.ref f) us kw) (EP X pins σ Q) X.xe s :=
  wpAny_call (codeAny_mono (Fn.run X.A X.stack s H ⟨us, kw⟩ us' vs Q _ hr gd I.env0 b r h) fun r s' hq => by
    cases r with
    | error e => exact hx σ pins H s e s' I hq
    | ok fl => cases fl <;> first | exact I.after hq | exact False.elim hq)
/-- what the call's promise asks, from m -/
theorem tcall {rs : Sh} {g : List D → Res D} {np : Nat} {dvs : List V} {dds : List D} {σ : L2.St} {H : Hp} {Q : VK} (hdd : ∀ F, RDs X.K F dvs dds) (h : tM X.K X.mg W ω rs (callM np dds g ms) σ H Q) :
    tA X.K X.mg W ω ms σ H fun vs H1 => spF X.K X.mg np rs g (vs ++ dvs) H1 Q fun cls d H => W cls d σ H := by
  obtain ⟨F, G, ρ, S, h⟩ := h
  refine ⟨F, G, ρ, S, ?_⟩
  have h := Res.sat_bind h
  cases em : ms ρ with
  | no => rw [em] at h; exact h
  | exc e ρ1 => rw [em] at h; exact h
  | ok ds ρ1 =>
    rw [em] at h
    refine fun vs F1 H1 l S1 rs' => ?_
    obtain ⟨G', gH, dj, back⟩ := S1.aside
    have rr := rs'.append (hdd F1)
    by_cases hnp : (ds ++ dds).length = np
    rotate_left
    · have h : ((if (ds ++ dds).length = np then ofRes (g (ds ++ dds)) else failM : M D) ρ1).sat _ _ := h
      rw [if_neg hnp] at h; exact h.elim
    have h0 : ((if (ds ++ dds).length = np then ofRes (g (ds ++ dds)) else failM : M D) ρ1).sat _ _ := h
    rw [if_pos hnp] at h0
    refine ⟨by rw [rr.length]; exact hnp, F1, G', ds ++ dds, rr, S1.fH, gH, dj, ?_⟩
    have h : (ofRes (g (ds ++ dds)) ρ1).sat _ _ := h0
    unfold ofRes at h
    cases eg : g (ds ++ dds) with
    | no => rw [eg] at h; exact h
    | ok d ρ2 => rw [eg] at h; exact fun v F' H' l' S' => h v F' H' (l.trans l') (back l' S')
    | exc e ρ2 => rw [eg] at h; exact fun F' H' cls dx l' fH' gH' dj' xx => h F' H' cls dx (l.trans l') (back (ω' := []) (ρ' := []) (σ' := []) l' ⟨⟨[], .nil, fun _ m => by cases m⟩, fH', gH', dj'⟩) xx
/-- f(e, ..) -/
theorem de_call {rs : Sh} {g : List D → Res D} {np : Nat} {dvs : List V} {dds : List D} {dus : List Value} (Fn : FnG X.prog X.w X.K X.mg X.base k f fd ps (spF X.K X.mg np rs g)) (hr : Room k X.A) (gd : X.A.guards = some []) (hg : Gl X x) (hm : X.mg x = some (.ref f)) (hk : PySem.W.keepIn X.K (.ref f) = true)
    (hb : Binds X.K fd ps dus) (hd : Vals dvs dus) (hdd : ∀ F, RDs X.K F dvs dds) (hx : Lets X W) (ha : DA X W ω (e :: es) ms) (hps : np = ps.length := by rfl)
    (hdb : (x == ("__debug__" : Str)) = false := by decide) (he : starEach (e :: es) X.env = (false, eval e X.env) :: starEach es X.env := by rfl) (hpl : (backTo pos (starEach es X.env)).any (·.1) = false := by rfl) :
    DE X W ω (.Call (.Name x p) (e :: es) [] pos) rs (callM np dds g ms) := by
  refine ⟨fun pins s σ H Q I h => ?_⟩
  refine wpAny_Call_Name_kw (ld_glob I hg hm ?_ hdb)
  refine PySem.W.callWith_K (h₀ := X.base) I.ok.mod.kin hk (thn (ha.run pos pins s σ H _ I (tcall hdd h)) fun us s1 ⟨vs, H1, I1, r, q⟩ => ⟨I1.kIn, ?_⟩) he hpl
  have rr := r.append hd
  exact run_g Fn hr gd hx I1 (hb s1 us I1.kIn (by rw [← rr.length, ← hps]; exact q.1)) rr q
end
end DL
/-! DL: calls with a list handed over to be changed, with keywords; the law's end. -/
namespace DL
open PySem PySem.Spec PyProof.Rows L2
/-- slot i is handed over, changed, and stands changed -/
def callP (np : Nat) (dds : List D) (g : List D → Res D) (i : Nat) (ms : M (List D)) : M D := bindM (chkM i) fun _ => bindM ms fun ds ρ => match ρ[i]? with
  | some (some (.lst xs)) => if (ds ++ dds).length = np then (match g (.lst xs :: (ds ++ dds)) with
    | .ok d [some y] => .ok d (ρ.set i (some y))
    | _ => .no) else .no
  | _ => .no
section
variable {K : Fg} {ω : List Sh} {F G H : Hp} {ρ : Rho} {σ : L2.St}
/-- all but the list at slot i is put aside -/
theorem Sim.aside1 (S : Sim K ω F G H ρ σ) {i : Nat} {s : Sh} {ds : List D} (h1 : ω[i]? = some s) (hs : coreSh s = .lst .fz) (h2 : ρ[i]? = some (some (.lst ds))) :
    ∃ a xs G', σ[i]? = some (some (.ref a)) ∧ H a = some (.lst xs) ∧ RDs K F xs ds ∧ F a = none ∧ G' a = none ∧ LeG K G' H ∧ Dj K F G' ∧
      ∀ {rs : Sh} {F' H' : Hp} {d y : D} {v : V}, Le F F' → Sim K [rs, .pin a (.lst .fz)] F' G' H' [some d, some y] [some v, some (.ref a)] → Sim K (rs :: ω) F' G H' (some d :: ρ.set i (some y)) (some v :: σ) := by
  obtain ⟨⟨fp, o, n⟩, l, g, dj⟩ := S
  obtain ⟨v, fi, fo, e, w, nn, m, back⟩ := o.split h1 h2
  have wc := w.core
  rw [hs] at wc
  cases wc with
  | @lst _ a xs _ fq ha r na =>
    obtain ⟨rs, e0⟩ := r.fz_rds
    subst e0
    have aI : a ∈ fp := (m a).mpr (.inl (List.mem_cons_self))
    have no : ∀ b ∈ fo, F b = none ∧ G b = none := fun b hb => n b ((m b).mpr (.inr hb))
    have sub : ∀ {b : Addr}, G b ≠ none → withH G H fo b ≠ none := fun {b} q => by
      by_cases mm : b ∈ fo
      · exact absurd (no b mm).2 q
      · rw [withH_out mm]; exact q
    have live : ∀ b ∈ fo, withH G H fo b ≠ none := fun b mm => by
      obtain ⟨u, e⟩ := o.live b ((m b).mpr (.inr mm))
      rw [withH_in mm, e]; exact fun z => nomatch z
    refine ⟨a, xs, withH G H fo, e, ha, rs, (n a aI).1, by rw [withH_out (nn a (List.mem_cons_self))]; exact (n a aI).2, g.with (fun b hb => o.mu b ((m b).mpr (.inr hb))), dj.with g (fun b q => ?_) (fun b hb => o.mu b ((m b).mpr (.inr hb))), fun {rs' F' H' d y v} lf S' => ?_⟩
    · by_cases mm : b ∈ fo
      · exact (no b mm).1
      · rw [withH_out mm] at q; exact dj.1 b q
    · obtain ⟨⟨fq, o', n'⟩, l', g', dj'⟩ := S'
      cases o' with
      | @bd _ _ _ _ _ _ f1 f2 w1 o2 nn1 =>
        cases o2 with
        | @bd _ _ _ _ _ _ f3 f4 w2 o3 nn2 =>
          cases o3
          rw [List.append_nil] at nn1 n'
          have apart : ∀ b ∈ f1 ++ f3, b ∉ fo := fun b hb z => live b z (n' b hb).2
          have w3 : Own K F' H' s (.ref a) y f3 := w.uncore (by rw [hs]; cases w2 with | pin w2 => exact w2)
          obtain ⟨fp', o', m'⟩ := back F' H' y f3 lf (g'.kept fun b hb => o.mu b ((m b).mpr (.inr hb))) w3 fun b hb => apart b (List.mem_append_right _ hb)
          refine ⟨⟨f1 ++ fp', .bd w1 o' fun b hb z => ?_, fun b hb => ?_⟩, l', fun b u q => ?_, ⟨fun b q => dj'.1 b (sub q), dj.2⟩⟩
          · rcases (m' b).mp z with z | z
            · exact nn1 b hb z
            · exact apart b (List.mem_append_left _ hb) z
          · have old : ∀ {b : Addr}, withH G H fo b = none → G b = none := fun {b} z => by
              cases q : G b with
              | none => rfl
              | some u => exact absurd z (sub (by rw [q]; exact fun z => nomatch z))
            rcases List.mem_append.mp hb with z | z
            · exact ⟨(n' b (List.mem_append_left _ z)).1, old (n' b (List.mem_append_left _ z)).2⟩
            · rcases (m' b).mp z with z | z
              · exact ⟨(n' b (List.mem_append_right _ z)).1, old (n' b (List.mem_append_right _ z)).2⟩
              · exact ⟨dj'.1 b (live b z), (no b z).2⟩
          · refine g' b u ?_
            rw [withH_out fun mm => by rw [(no b mm).2] at q; cases q]
            exact q
end
section
variable {X : Cx} {W : WX} {ω : List Sh} {k : Nat} {f : Addr} {fd : FuncData} {ps : List Str} {sp : Sp} {x : Str} {p pos : Pos} {e : Expr} {es : List Expr} {ms : M (List D)}
/-- f(x, e, ..), x the name of a list that is owned -/
theorem de_callP {rs s : Sh} {g : List D → Res D} {np i : Nat} {y : Str} {py : Pos} {dvs : List V} {dds : List D} {dus : List Value} (Fn : FnG X.prog X.w X.K X.mg X.base k f fd ps (spP X.K X.mg np rs g)) (hr : Room k X.A) (gd : X.A.guards = some []) (hg : Gl X x) (hm : X.mg x = some (.ref f)) (hk : PySem.W.keepIn X.K (.ref f) = true)
    (hb : Binds X.K fd ps dus) (hd : Vals dvs dus) (hdd : ∀ F, RDs X.K F dvs dds) (hx : Lets X W) (h1 : ω[i]? = some s) (hs : coreSh s = .lst .fz) (hv : PE X (.Name y py) (tVar i)) (ha : DA X W ω es ms) (hps : np + 1 = ps.length := by rfl)
    (hdb : (x == ("__debug__" : Str)) = false := by decide) (hst : starEach (.Name y py :: es) X.env = (false, eval (.Name y py) X.env) :: starEach es X.env := by rfl) (hpl : (backTo pos (starEach es X.env)).any (·.1) = false := by rfl) :
    DE X W ω (.Call (.Name x p) (.Name y py :: es) [] pos) rs (callP np dds g i ms) := by
  refine ⟨fun pins s' σ H Q I h => ?_⟩
  refine wpAny_Call_Name_kw (ld_glob I hg hm ?_ hdb)
  have hA : PA X (.Name y py :: es) (tCons (tVar i) (tA X.K X.mg W ω ms)) := pa_cons hv ha hst
  have want : tCons (tVar i) (tA X.K X.mg W ω ms) σ H fun vs H1 => spP X.K X.mg np rs g (vs ++ dvs) H1 Q fun cls d H => W cls d σ H := by
    obtain ⟨F, G, ρ, S, q⟩ := h
    obtain ⟨ds0, e0, q⟩ := chkM_ok (Res.sat_bind q)
    obtain ⟨a, xs, ea, _⟩ := S.lst h1 hs e0
    refine ⟨_, ea, F, G, ρ, S, Res.sat_mono (Res.sat_bind q) (fun ds ρ1 q1 vs F1 H1 l S1 rv => ?_) fun _ _ z => z⟩
    split at q1
    · rename_i ds1 e1
      split at q1
      · rename_i hnp
        obtain ⟨a', xs', G', ea', ha, rx, fa, ga, gH, dj, back⟩ := S1.aside1 h1 hs e1
        rw [ea] at ea'
        cases ea'
        have rr := rv.append (hdd F1)
        have hl : (vs ++ dvs).length = np := by rw [rr.length]; exact hnp
        refine ⟨by show (vs ++ dvs).length + 1 = np + 1; rw [hl], F1, G', a, xs', vs ++ dvs, ds1, ds ++ dds, rfl, ha, fa, ga, rx, rr, S1.fH, gH, dj, ?_⟩
        split at q1
        · rename_i d y eg
          rw [eg]
          exact fun v F' H' l' S' => q1 v F' H' (l.trans l') (back l' S')
        · exact q1.elim
      · exact q1.elim
    · exact q1.elim
  refine PySem.W.callWith_K (h₀ := X.base) I.ok.mod.kin hk (thn (hA.run pos pins s' σ H _ I want) fun us s1 ⟨vs, H1, I1, r, q⟩ => ⟨I1.kIn, ?_⟩) hst hpl
  have rr := r.append hd
  exact run_g Fn hr gd hx I1 (hb s1 us I1.kIn (by rw [← rr.length, ← hps]; exact q.1)) rr q
/-! ### keywords -/
abbrev DK (X : Cx) (W : WX) (ω : List Sh) (kws : List Keyword) (m : M (List D)) : Prop := PK X kws (tA X.K X.mg W ω m)
theorem PK.imp {es : List Keyword} {t t' : TA} (h : PK X es t) (k : ∀ σ H Q, t' σ H Q → t σ H Q) : PK X es t' := ⟨fun pos pins s σ H Q I q => h.run pos pins s σ H Q I (k σ H Q q)⟩
theorem dk_nil : DK X W ω [] nilM := PK.imp pk_nil fun σ H Q ⟨F, G, ρ, S, q⟩ => q [] F H (Le.refl _) S .nil
theorem dk_cons {m : M D} {nm : Option Str} {kpos : Pos} {kws : List Keyword} (h : DE X W ω e .fz m) (hs : DK X W ω kws ms) : DK X W ω (⟨nm, e, kpos⟩ :: kws) (consM m ms) :=
  PK.imp (pk_cons h hs) fun σ H Q q => by
    obtain ⟨F, q⟩ := tA_cons q
    refine ⟨F, tMF_mono q fun x H1 ⟨d, F1, r, G, ρ, S, q1⟩ => ⟨F1, G, ρ, S, ?_⟩⟩
    refine Res.sat_mono (Res.sat_bind q1) (fun ds ρ1 p vs F2 H2 l S2 rs => ?_) fun _ _ z => z
    exact p (x :: vs) F2 H2 l S2 (.cons (r.mono l) rs)
/-- how the keywords' values come into the parameters' order: by places -/
def byIx {α : Type} (ix : List Nat) (xs : List α) : List α := ix.filterMap fun i => xs[i]?
theorem RDs.byIx {K : Fg} {F : Hp} {vs : List V} {ds : List D} (h : RDs K F vs ds) : ∀ ix : List Nat, RDs K F (DL.byIx ix vs) (DL.byIx ix ds)
  | [] => .nil
  | i :: ix => by
    unfold DL.byIx
    rw [List.filterMap_cons, List.filterMap_cons]
    have t := RDs.byIx h ix
    cases e : ds[i]? with
    | none =>
      have : vs[i]? = none := by rw [List.getElem?_eq_none_iff] at e ⊢; rw [h.length]; exact e
      rw [this]; exact t
    | some d =>
      obtain ⟨v, ev, r⟩ := h.get e
      rw [ev]; exact .cons r t
theorem Vals.byIx {xs : List V} {us : List Value} (h : Vals xs us) : ∀ ix : List Nat, Vals (DL.byIx ix xs) (DL.byIx ix us)
  | [] => .nil
  | i :: ix => by
    unfold DL.byIx
    rw [List.filterMap_cons, List.filterMap_cons]
    have t := Vals.byIx h ix
    cases e : xs[i]? with
    | none => rw [h.none_of e]; exact t
    | some d =>
      obtain ⟨v, ev, r⟩ := h.get e
      rw [ev]; exact .cons r t
/-- the places are a rearrangement; all by keywords -/
theorem de_callK {rs : Sh} {g : List D → Res D} {np : Nat} {ix : List Nat} {ks : List Str} {kws : List Keyword} (Fn : FnG X.prog X.w X.K X.mg X.base k f fd ps (spF X.K X.mg np rs g)) (hr : Room k X.A) (gd : X.A.guards = some []) (hg : Gl X x) (hm : X.mg x = some (.ref f)) (hk : PySem.W.keepIn X.K (.ref f) = true)
    (hb : ∀ (s : Shared) (ws : List Value), X.K.In s.heap → ws.length = ks.length → BindsTo s fd ⟨[], ks.zip ws⟩ (ps.zip (byIx ix ws))) (hx : Lets X W) (ha : DK X W ω kws ms) (hnk : ks.length = np)
    (hks : (backToKw pos (keywordEach kws X.env)).filterMap (·.1) = ks := by rfl) (hall : (backToKw pos (keywordEach kws X.env)).all (·.1.isSome) = true := by rfl)
    (hix : ∀ xs : List V, xs.length = np → (byIx ix xs).length = np)
    (hdb : (x == ("__debug__" : Str)) = false := by decide) (hpl : ((backTo pos (starEach [] X.env)).any (·.1) || (backToKw pos (keywordEach kws X.env)).any (·.1.isNone)) = false := by rfl) :
    DE X W ω (.Call (.Name x p) [] kws pos) rs (callM np [] (fun ds => g (byIx ix ds)) ms) := by
  refine ⟨fun pins s σ H Q I h => ?_⟩
  refine wpAny_Call_Name_kw (ld_glob I hg hm ?_ hdb)
  have want : tA X.K X.mg W ω ms σ H fun vs H1 => vs.length = np ∧ spF X.K X.mg np rs g (byIx ix vs) H1 Q fun cls d H => W cls d σ H := by
    have q := tcall (dvs := []) (fun _ => .nil) h
    obtain ⟨F, G, ρ, S, q⟩ := q
    refine ⟨F, G, ρ, S, Res.sat_mono q (fun ds ρ1 p vs F1 H1 l S1 rv => ?_) fun _ _ z => z⟩
    obtain ⟨hl, F2, G2, ds2, r2, a, b, c, z⟩ := p vs F1 H1 l S1 rv
    rw [List.append_nil] at hl r2
    exact ⟨hl, hix vs hl, F2, G2, byIx ix ds2, r2.byIx ix, a, b, c, z⟩
  refine PySem.W.callWith_KW0 (h₀ := X.base) I.ok.mod.kin hk hall (thn (ha.run pos pins s σ H _ I want) fun ws s1 ⟨zs, H1, I1, rz, hl, q⟩ => ⟨I1.kIn, ?_⟩) hpl
  rw [hks]
  exact run_g Fn hr gd hx I1 (hb s1 ws I1.kIn (by rw [← rz.length, hl, hnk])) (Vals.byIx rz ix) q
end
/-! ### the law's end -/
section
variable {P : Program} {w : World} {K : Fg} {mg mb : Str → Option Value} {k : Nat} {fa a : Addr} {fd : FuncData} {x : Str} {f : List D → Res D}
/-- the tables' surroundings in the base -/
def BmOk (K : Fg) (mg : Str → Option Value) (base : Heap) : Prop := ∀ p ∈ tabsOf K, base.BuiltinsAt mg p.1 ∧ mainGlobals ≠ p.1
/-- the law, called with the script behind the top -/
theorem law_run {s₁ : Shared} {vs : List Value} {ns : List Int} (KX : K.In s₁.heap) (hns : s₁.heap.Ns mainGlobals mg) (hb : s₁.heap.Ns builtinsNs mb) (hbb : ∀ x : Str, x ≠ "__name__" → mb x = bootBuiltins x) (hlim : s₁.heap.NoLimit) (hg : s₁.gens = #[])
    (hT : ∀ p ∈ tabsOf K, s₁.heap.get? p.1 = some { cls := .none, data := .fields #[] })
    (hbm : ∃ (bm : Addr) (ob : Obj), mg "__builtins__" = some (.ref bm) ∧ bm ≠ builtinsNs ∧ s₁.heap.get? bm = some ob ∧ ob.cls = .type "module" ∧ ob.dict = some builtinsNs ∧ ob.data = .plain)
    (ha : s₁.heap.get? a = some { cls := .type "list", data := .seq vs.toArray }) (hi : IntsAre vs ns) (hl : ns.length ≤ sizeLine) (hr : Room k callerA)
    (Fn : ∀ base : Heap, K.In base → base.Ns mainGlobals mg → BmOk K mg base → FnG P w K mg base k fa fd [x] (spF K mg 1 .fz f)) (bind : ∀ (s : Shared) (u : Value), BindsTo s fd ⟨[u], []⟩ [(x, u)])
    (hf : ∃ ρ, f [.scr (ns.map D.int)] = .ok (.bl true) ρ) :
    codeAny (model P w) callerA (.call (.ref fa) ⟨[.ref a], []⟩) (fun r s' => r = .ok (.ret (.bool true)) ∧ OldK s₁.heap s'.heap ∧ s'.os = s₁.os ∧ AllBare s'.gens) s₁ := by
  have rv := vals_ints hi
  have hTm : ∀ {b : Addr}, b ∈ (tabsOf K).map (·.1) → s₁.heap.get? b = some { cls := .none, data := .fields #[] } := fun {b} hb => by
    obtain ⟨p, hp, rfl⟩ := List.mem_map.mp hb
    exact hT p hp
  have aT : a ∉ (tabsOf K).map (·.1) := fun z => by
    have q := hTm z
    rw [ha] at q
    exact nomatch (congrArg Obj.data (Option.some.inj q) : Data.seq vs.toArray _ = Data.fields #[])
  -- the script, unless it is the module's own, and the tables are tracked
  let H : Hp := fun b => if b = a ∧ K.lookup a = none then some (.frz { cls := .type "list", data := .seq vs.toArray } (.lst (ns.map V.int))) else if b ∈ (tabsOf K).map (·.1) then some (.tbl #[]) else none
  have Hs : ∀ {b : Addr} {u : HO}, H b = some u → (b = a ∧ K.lookup a = none ∧ u = .frz { cls := .type "list", data := .seq vs.toArray } (.lst (ns.map V.int))) ∨ (b ∈ (tabsOf K).map (·.1) ∧ u = .tbl #[]) := fun {b u} e => by
    by_cases h : b = a ∧ K.lookup a = none
    · exact .inl ⟨h.1, h.2, (Option.some.inj ((if_pos h).symm.trans e)).symm⟩
    · have e2 := (if_neg h).symm.trans e
      by_cases h2 : b ∈ (tabsOf K).map (·.1)
      · exact .inr ⟨h2, (Option.some.inj ((if_pos h2).symm.trans e2)).symm⟩
      · exact absurd ((if_neg h2).symm.trans e2) (fun z => nomatch z)
  have Ht : ∀ {b : Addr}, b ∈ (tabsOf K).map (·.1) → H b = some (.tbl #[]) := fun {b} hb => by
    have e : ¬ (b = a ∧ K.lookup a = none) := fun z => aT (z.1 ▸ hb)
    exact (if_neg e).trans (if_pos hb)
  have hok : HOk P w H s₁.heap := fun b u e => by
    rcases Hs e with ⟨rfl, _, rfl⟩ | ⟨m, rfl⟩
    · exact ⟨ha, by rw [List.length_map]; exact hl, vs, _, rv, ha⟩
    · exact hTm m
  have seq : SqL K H a (ns.map V.int) := by
    cases q : K.lookup a with
    | none => exact .inl (.inr ⟨_, if_pos ⟨rfl, q⟩⟩)
    | some o =>
      have e := (KX a o q).symm.trans ha
      cases e
      exact .inr ⟨_, vs.toArray, _, q, rfl, rfl, rfl, by rw [List.size_toArray, hi.length]; exact hl, by simpa using rv⟩
  have out : ∀ {b : Addr} {o : Obj}, s₁.heap.get? b = some o → (b = a → K.lookup a ≠ none) → b ∉ (tabsOf K).map (·.1) → (hidT s₁.heap H).get? b = some o := fun {b o} e n n2 => hidT_get e (by
    cases q : H b with
    | none => rfl
    | some u =>
      rcases Hs q with z | z
      · exact absurd z.2.1 (n z.1)
      · exact absurd z.1 n2)
  have dat : ∀ {b : Addr} {o : Obj}, s₁.heap.get? b = some o → (∀ xs n, o.data ≠ .seq xs n) → o.data ≠ .fields #[] → (hidT s₁.heap H).get? b = some o := fun {b o} e h1 h2 => out e (fun z => by
    subst z
    rw [ha] at e
    cases e
    exact absurd rfl (h1 _ _)) fun z => by
    rw [hTm z] at e
    cases e
    exact h2 rfl
  have ns_ : ∀ {b : Addr} {m : Str → Option Value}, s₁.heap.Ns b m → (hidT s₁.heap H).Ns b m := fun {b m} ⟨o, es, ep, e, d, r⟩ => ⟨o, es, ep, dat e (fun xs n z => nomatch d.symm.trans z) (fun z => nomatch d.symm.trans z), d, r⟩
  have inK : K.In (hidT s₁.heap H) := fun b o e => out (KX b o e) (fun z => by rw [← z, e]; exact fun z => nomatch z) fun z => by
    obtain ⟨p, hp, rfl⟩ := List.mem_map.mp z
    rw [(tabsOf_ok hp).1] at e
    cases e
  have bmk : BmOk K mg (hidT s₁.heap H) := fun p hp => by
    obtain ⟨bm, ob, b1, b2, b3, b4, b5, b6⟩ := hbm
    obtain ⟨og, eg, epg, gg, dg, _⟩ := hns
    refine ⟨⟨bm, ob, b1, b2, fun q => ?_, fun q => ?_, dat b3 (fun xs n z => nomatch b6.symm.trans z) (fun z => nomatch b6.symm.trans z), b4, b5, b6⟩, fun q => ?_⟩
    · rw [q, gg] at b3
      cases b3
      exact nomatch b6.symm.trans dg
    · rw [q, hT p hp] at b3
      cases b3
      exact nomatch b6
    · rw [q, hT p hp] at gg
      cases gg
      exact nomatch dg
  have en : Env0 P w K mg (hidT s₁.heap H) callerA [] s₁ H :=
    ⟨rfl, ⟨inK, ns_ hns, ⟨mb, ns_ hb, hbb⟩, hlim.elim fun mc z => ⟨mc, ns_ z.1, z.2⟩⟩, fun b o e => of_hidT e, Nat.le_of_eq (hidT_size _ _), trivial, fun b z => absurd (show b ∈ ([] : List Addr) from z) (by simp), hok, .of_eq hg⟩
  -- the tables are others'
  let F : Hp := fun b => if b = a ∧ K.lookup a = none then H b else none
  let G : Hp := fun b => if b ∈ (tabsOf K).map (·.1) then some (.tbl #[]) else none
  have FH : Le F H := fun b u e => by
    by_cases h : b = a ∧ K.lookup a = none
    · exact (if_pos h).symm.trans e
    · exact absurd ((if_neg h).symm.trans e) (fun z => nomatch z)
  have Gs : ∀ {b : Addr} {u : HO}, G b = some u → b ∈ (tabsOf K).map (·.1) ∧ u = .tbl #[] := fun {b u} e => by
    by_cases h : b ∈ (tabsOf K).map (·.1)
    · exact ⟨h, (Option.some.inj ((if_pos h).symm.trans e)).symm⟩
    · exact absurd ((if_neg h).symm.trans e) (fun z => nomatch z)
  have GH : LeG K G H := fun b u e => by
    obtain ⟨m, rfl⟩ := Gs e
    obtain ⟨p, hp, rfl⟩ := List.mem_map.mp m
    exact ⟨p.2, hp, fun q' _ => LamX.TabS.nil (Ht m)⟩
  have dj1 : ∀ b, G b ≠ none → F b = none := fun b q => by
    cases e : G b with
    | none => exact absurd e q
    | some u =>
      have n : ¬ (b = a ∧ K.lookup a = none) := fun z => aT (z.1 ▸ (Gs e).1)
      exact if_neg n
  have dj : Dj K F G := ⟨dj1, (fun b o e => .inr ⟨#[], (Gs e).2⟩), fun p hp => ⟨#[], if_pos (List.mem_map.mpr ⟨p, hp, rfl⟩)⟩⟩
  have seqF : SqL K F a (ns.map V.int) := by
    rcases seq with z | z
    · have := z
      rcases z with z | ⟨o, z⟩
      · rcases Hs z with y | y
        · exact nomatch y.2.2
        · exact nomatch y.2
      · rcases Hs z with y | y
        · exact .inl (.inr ⟨o, (if_pos ⟨rfl, y.2.1⟩).trans z⟩)
        · exact nomatch y.2
    · exact .inr z
  have rds : ∀ ns : List Int, RDs K F (ns.map V.int) (ns.map D.int) := fun ns => by
    induction ns with
    | nil => exact .nil
    | cons n ns ih => exact .cons (.int n) ih
  obtain ⟨ρ, ef⟩ := hf
  have want : spF K mg 1 .fz f [.ref a] H (fun v _ => v = .bl true) fun _ _ _ => False :=
    ⟨rfl, F, G, [.scr (ns.map D.int)], .cons (.scr seqF (rds ns)) .nil, FH, GH, dj, by
      rw [ef]
      exact fun v F' H' l S' => by
        obtain ⟨r, _⟩ := S'.top
        cases r
        rfl⟩
  refine codeAny_mono ((Fn _ inK (ns_ hns) bmk).run callerA [] s₁ H ⟨[.ref a], []⟩ [.ref a] [.ref a] _ _ hr rfl en (bind s₁ (.ref a)) (.cons rfl .nil) want) fun r s' h => ?_
  cases r with
  | error e =>
    obtain ⟨_, _, _, _, _, _, _, _, _, _, _, _, z⟩ := h
    exact z.elim
  | ok fl =>
    cases fl with
    | next => exact False.elim h
    | brk => exact False.elim h
    | cont => exact False.elim h
    | ret u =>
      obtain ⟨v, H', os, bare, un, hok', r', q⟩ := h
      cases (show v = .bl true from q)
      obtain rfl : u = Value.bool true := r'
      have key : ∀ b o, b ∉ (tabsOf K).map (·.1) → s₁.heap.get? b = some o → s'.heap.get? b = some o := fun b o nb e => by
        cases q : H b with
        | none => exact un.keep b o e q (fun z => absurd (show b ∈ ([] : List Addr) from z) (by simp)) (by simp)
        | some u =>
          rcases Hs q with ⟨rfl, _, rfl⟩ | z
          · obtain ⟨e2, _⟩ := hok' b _ (un.frzs b _ _ q)
            rw [ha] at e
            cases e
            exact e2
          · exact absurd z.1 nb
      have grown : ∀ b, b ∈ (tabsOf K).map (·.1) → ∃ more : Array Value, s'.heap.get? b = some { cls := .none, data := .fields more } := fun b hb => by
        obtain ⟨more, z⟩ := un.tbls b #[] (Ht hb)
        exact ⟨_, hok' b _ z⟩
      refine ⟨rfl, ⟨fun b o e => ?_, fun b o e => ?_⟩, os, bare⟩
      · by_cases hb : b ∈ (tabsOf K).map (·.1)
        · obtain ⟨more, hm⟩ := grown b hb
          rw [hTm hb] at e
          cases e
          obtain ⟨p, hp, rfl⟩ := List.mem_map.mp hb
          obtain ⟨_, c, hc⟩ := tabsOf_ok hp
          exact .inr (.inl ⟨((PySem.W.codeHd_of_K KX hc).tab (hT p hp)).isCodeTable, rfl, #[], more, rfl, by rw [Array.empty_append]; exact hm⟩)
        · exact .inl (key b o hb e)
      · by_cases hb : b ∈ (tabsOf K).map (·.1)
        · obtain ⟨more, hm⟩ := grown b hb
          exact ⟨_, hm⟩
        · exact ⟨o, key b o hb e⟩
end
end DL
/-! DL: built-ins. -/
namespace DL
open PySem PySem.Spec PyProof.Rows L2
section
variable {X : Cx} {W : WX} {C : Sx} {ω : List Sh} {pos : Pos} {a b c e : Expr} {m m1 m2 m3 : M D} {sh : Sh}
theorem CallR.imp {f : Value} {r r' : List V → Hp → VK → Prop} (h : CallR X f r) (k : ∀ x H Q, r' x H Q → r x H Q) : CallR X f r' := fun pins s σ H xs us Q I rv q => h pins s σ H xs us Q I rv (k xs H Q q)
/-! ### int, bool, abs, len -/
def gIntC : List D → Option D
  | [.int i] => some (.int i)
  | [.bl b] => some (.int (if b then 1 else 0))
  | _ => none
theorem cd_int : CallD X (.type "int") gIntC := fun F ds r e => by
  unfold gIntC at e
  split at e
  · cases e
    refine CallR.imp call_int1 fun xs H Q ⟨l, rs, q⟩ => ?_
    cases rs with | cons r rs => cases rs; cases r; exact .inl ⟨_, rfl, q _ F H (Gr.refl l) (.int _)⟩
  · cases e
    refine CallR.imp call_int1 fun xs H Q ⟨l, rs, q⟩ => ?_
    cases rs with | cons r rs => cases rs; cases r; exact .inr ⟨_, rfl, q _ F H (Gr.refl l) (.int _)⟩
  · cases e
def gAbs : List D → Option D
  | [.int i] => some (.int (if i < 0 then -i else i))
  | _ => none
theorem cd_abs : CallD X (.builtin "abs") gAbs := fun F ds r e => by
  unfold gAbs at e
  split at e
  · cases e
    refine CallR.imp call_abs fun xs H Q ⟨l, rs, q⟩ => ?_
    cases rs with | cons r rs => cases rs; cases r; exact ⟨_, rfl, q _ F H (Gr.refl l) (.int _)⟩
  · cases e
def gLen : List D → Option D
  | [.lst xs] => some (.int xs.length)
  | [.tup xs] => some (.int xs.length)
  | [.ktup xs] => some (.int xs.length)
  | [.scr xs] => some (.int xs.length)
  | [.str z] => if z.length ≤ sizeLine then some (.int z.length) else none
  | _ => none
theorem cd_len : CallD X (.builtin "len") gLen := fun F ds r e => by
  unfold gLen at e
  split at e
  · cases e
    refine CallR.imp call_len_seq fun xs H Q ⟨l, rs, q⟩ => ?_
    cases rs with | cons r rs => cases rs; cases r with | lst h s => exact ⟨_, _, rfl, .inl (SqL.of (l _ _ h)), by rw [s.length]; exact q _ F H (Gr.refl l) (.int _)⟩
  · cases e
    refine CallR.imp call_len_seq fun xs H Q ⟨l, rs, q⟩ => ?_
    cases rs with | cons r rs => cases rs; cases r with | tup h s => exact ⟨_, _, rfl, .inr (SqT.of (l _ _ h)), by rw [s.length]; exact q _ F H (Gr.refl l) (.int _)⟩
  · cases e
    refine CallR.imp call_len_seq fun xs H Q ⟨l, rs, q⟩ => ?_
    cases rs with | cons r rs => cases rs; cases r with | ktup h s => exact ⟨_, _, rfl, .inr (SqT.mono l h), by rw [s.length]; exact q _ F H (Gr.refl l) (.int _)⟩
  · cases e
    refine CallR.imp call_len_seq fun xs H Q ⟨l, rs, q⟩ => ?_
    cases rs with | cons r rs => cases rs; cases r with | scr h s => exact ⟨_, _, rfl, .inl (SqL.mono l h), by rw [s.length]; exact q _ F H (Gr.refl l) (.int _)⟩
  · split at e
    · rename_i hz
      cases e
      refine CallR.imp call_len_str fun xs H Q ⟨l, rs, q⟩ => ?_
      cases rs with | cons r rs => cases rs; cases r; exact ⟨_, rfl, hz, q _ F H (Gr.refl l) (.int _)⟩
    · cases e
  · cases e
/-! ### all, any of truth values -/
def blsD : List D → Option (List Bool)
  | [] => some []
  | .bl b :: ds => (blsD ds).map (b :: ·)
  | _ => none
theorem blsD.ok {K : Fg} {F : Hp} : ∀ {ds : List D} {vs : List V} {bs : List Bool}, RDs K F vs ds → blsD ds = some bs → vs = bs.map V.bl
  | [], _, _, .nil, e => by cases e; rfl
  | .bl b :: ds, _, bs, .cons r rs, e => by
    cases r
    unfold blsD at e
    obtain ⟨bs', e1, rfl⟩ := Option.map_eq_some_iff.mp e
    rw [blsD.ok rs e1]; rfl
  | .non :: _, _, _, _, e => by cases e
  | .int _ :: _, _, _, _, e => by cases e
  | .str _ :: _, _, _, _, e => by cases e
  | .ty _ :: _, _, _, _, e => by cases e
  | .fn _ _ :: _, _, _, _, e => by cases e
  | .tup _ :: _, _, _, _, e => by cases e
  | .ktup _ :: _, _, _, _, e => by cases e
  | .lst _ :: _, _, _, _, e => by cases e
  | .scr _ :: _, _, _, _, e => by cases e
  | .dK _ :: _, _, _, _, e => by cases e
  | .dT _ :: _, _, _, _, e => by cases e
  | .dZ _ :: _, _, _, _, e => by cases e
  | .ins _ _ :: _, _, _, _, e => by cases e
def gAll : List D → Option D
  | [.lst ds] => (blsD ds).map fun bs => .bl (bs.all id)
  | _ => none
def gAny : List D → Option D
  | [.lst ds] => (blsD ds).map fun bs => .bl (bs.any id)
  | _ => none
theorem cd_all (hc : X.calm = true) : CallD X (.builtin "all") gAll := fun F ds r e => by
  unfold gAll at e
  split at e
  · obtain ⟨bs, e1, rfl⟩ := Option.map_eq_some_iff.mp e
    refine CallR.imp (cr_all hc) fun xs H Q ⟨l, rs, q⟩ => ?_
    cases rs with | cons r rs => cases rs; cases r with | lst h s => exact ⟨_, bs, rfl, SqL.of (by rw [← blsD.ok s e1]; exact l _ _ h), q _ F H (Gr.refl l) (.bl _)⟩
  · cases e
theorem cd_any (hc : X.calm = true) : CallD X (.builtin "any") gAny := fun F ds r e => by
  unfold gAny at e
  split at e
  · obtain ⟨bs, e1, rfl⟩ := Option.map_eq_some_iff.mp e
    refine CallR.imp (cr_any hc) fun xs H Q ⟨l, rs, q⟩ => ?_
    cases rs with | cons r rs => cases rs; cases r with | lst h s => exact ⟨_, bs, rfl, SqL.of (by rw [← blsD.ok s e1]; exact l _ _ h), q _ F H (Gr.refl l) (.bl _)⟩
  · cases e
/-! ### repr -/
def showD (d : D) : Bool := plainD d && (toP d).showable && decide ((toP d).depth ≤ 64) && decide ((toP d).shown.length ≤ sizeLine)
def gRepr : List D → Option D
  | [d] => if showD d then some (.str (toP d).shown) else none
  | _ => none
theorem noDict (d : D) : (toP d).hasDict = false := by
  have key : (∀ d : D, (toP d).hasDict = false) ∧ True := ⟨?_, trivial⟩
  · exact key.1 d
  intro d
  exact (D.rec (motive_1 := fun d => (toP d).hasDict = false) (motive_2 := fun ds => PyData.hasDictAll (toPs ds) = false) (motive_3 := fun _ => True) (motive_4 := fun _ => True) (motive_5 := fun _ => True) (motive_6 := fun _ => True) (motive_7 := fun _ => True) (motive_8 := fun _ => True)
    (by simp [toP, PyData.hasDict]) (fun _ => by simp [toP, PyData.hasDict]) (fun _ => by simp [toP, PyData.hasDict]) (fun _ => by simp [toP, PyData.hasDict]) (fun _ => by simp [toP, PyData.hasDict]) (fun _ => by simp [toP, PyData.hasDict])
    (fun xs ih => by simpa [toP, PyData.hasDict] using ih) (fun xs ih => by simpa [toP, PyData.hasDict] using ih) (fun xs ih => by simpa [toP, PyData.hasDict] using ih) (fun xs ih => by simpa [toP, PyData.hasDict] using ih) (fun xs _ => by simp [toP, PyData.hasDict]) (fun _ _ => by simp [toP, PyData.hasDict]) (fun _ _ => by simp [toP, PyData.hasDict]) (fun _ _ => by simp [toP, PyData.hasDict]) (fun _ _ _ => by simp [toP, PyData.hasDict]) (fun _ _ _ => by simp [toP, PyData.hasDict])
    (by simp [toPs, PyData.hasDictAll]) (fun d ds h1 h2 => by simp [toPs, PyData.hasDictAll, h1, h2]) trivial (fun _ _ _ _ => trivial) trivial (fun _ _ _ _ => trivial) trivial (fun _ _ _ _ => trivial) (fun _ _ _ => trivial) (fun _ _ _ => trivial) (fun _ _ _ => trivial) d)
theorem cd_repr (gd : X.A.guards = some []) (hu : X.A.units + 80 < cLine) : CallD X (.builtin "repr") gRepr := fun F ds r e => by
  unfold gRepr at e
  split at e
  · rename_i d
    split at e
    · rename_i hs
      cases e
      unfold showD at hs
      simp only [Bool.and_eq_true, decide_eq_true_eq] at hs
      obtain ⟨⟨⟨hp, hsh⟩, hd⟩, hz⟩ := hs
      intro pins s σ H xs us Q I rv ⟨l, rs, q⟩
      cases rs with
      | cons r0 rs =>
        cases rs
        obtain ⟨u, rfl, ru⟩ := vals1 rv
        have fin : ∀ h' u' tk, (∀ b o, s.heap.get? b = some o → h'.get? b = some o) → EP X pins σ Q (.str (toP d).shown u') { s with heap := h', toks := tk } := fun h' u' tk hk =>
          ⟨.str (toP d).shown, H, I.kept (t' := tk) hk, ⟨u', rfl⟩, q _ F H (Gr.refl l) (.str _)⟩
        obtain ⟨as, hr⟩ := Dp.reads I (toP d) _ u ((r0.mono l).dp hp) ru
        cases r0 with
        | non => cases ru; exact P.repr_of_none ⟨.str _, H, I.tok _, ⟨_, rfl⟩, q _ F H (Gr.refl l) (.str _)⟩
        | bl b => cases ru; exact P.repr_of_bool ⟨.str _, H, I.tok _, ⟨_, rfl⟩, q _ F H (Gr.refl l) (.str _)⟩
        | int i =>
          obtain ⟨t, rfl⟩ := ru
          exact P.repr_of_int (of_decide_eq_true hsh) ⟨.str _, H, I.tok _, ⟨_, rfl⟩, q _ F H (Gr.refl l) (.str _)⟩
        | str x =>
          obtain ⟨t, rfl⟩ := ru
          exact P.repr_of_str (hsz := hz) ⟨.str _, H, I.tok _, ⟨_, rfl⟩, q _ F H (Gr.refl l) (.str _)⟩
        | tup h s' =>
          cases ru
          exact repr_of_reads' hr hsh (PyData.noDict_hsm (noDict _)) gd (by omega) (fun _ _ e => e) fin hz
        | ntup h e s' =>
          cases ru
          exact repr_of_reads' hr hsh (PyData.noDict_hsm (noDict _)) gd (by omega) (fun _ _ e => e) fin hz
        | ktup h s' =>
          cases ru
          exact repr_of_reads' hr hsh (PyData.noDict_hsm (noDict _)) gd (by omega) (fun _ _ e => e) fin hz
        | lst h s' =>
          cases ru
          exact repr_of_reads' hr hsh (PyData.noDict_hsm (noDict _)) gd (by omega) (fun _ _ e => e) fin hz
        | _ => cases hp
    · cases e
  · cases e
end
end DL
/-! DL: slices, chains of comparisons, isinstance, in, index, list(), tuple(). -/
namespace DL
open PySem PySem.Spec PyProof.Rows L2
section
variable {X : Cx} {W : WX} {C : Sx} {ω : List Sh} {pos : Pos} {a b c e : Expr} {m m1 m2 m3 : M D} {sh : Sh}
/-! ### slices: bounds that are ints or left out -/
abbrev MO := M (Option Int)
def tOF (K : Fg) (mg : Str → Option Value) (W : WX) (ω : List Sh) (m : MO) : TO := fun σ H Q => ∃ F G ρ, Sim K ω F G H ρ σ ∧ (m ρ).sat (fun o ρ' => ∀ F' H', Le F F' → Sim K ω F' G H' ρ' σ → Q o H') (Zx K mg W ω F G σ)
abbrev DO (X : Cx) (W : WX) (ω : List Sh) (e : Option Expr) (m : MO) : Prop := PO X e (tOF X.K X.mg W ω m)
theorem PO.imp {e : Option Expr} {t t' : TO} (h : PO X e t) (k : ∀ σ H Q, t' σ H Q → t σ H Q) : PO X e t' := ⟨fun pins s σ H Q I q => h.run pins s σ H Q I (k σ H Q q)⟩
def noO : MO := pureM none
def intD : D → Option (Option Int)
  | .int i => some (some i)
  | _ => none
def someO (m : M D) : MO := bindM m fun d => liftO (intD d)
theorem do_none : DO X W ω none noO := PO.imp po_none fun σ H Q ⟨F, G, ρ, S, q⟩ => q F H (Le.refl _) S
theorem do_some (h : DE X W ω e .fz m) : DO X W ω (some e) (someO m) := PO.imp (po_some h) fun σ H Q ⟨F, G, ρ, S, q⟩ => by
  refine ⟨F, G, ρ, S, Res.sat_mono (Res.sat_bind q) (fun d ρ1 p v F1 H1 l S1 => ?_) fun _ _ z => z⟩
  obtain ⟨r, S2⟩ := S1.top
  unfold intD at p
  split at p
  · cases r; exact ⟨_, rfl, p F1 H1 l S2⟩
  · exact p.elim
def cutD (xs : List D) (lo hi : Option Int) : List D := (xs.drop (HT.sIx xs.length 0 lo)).take (HT.sIx xs.length xs.length hi - HT.sIx xs.length 0 lo)
theorem RDs.cut {K : Fg} {F : Hp} {vs : List V} {ds : List D} (h : RDs K F vs ds) (lo hi : Option Int) : RDs K F (cutV vs lo hi) (cutD ds lo hi) := by
  unfold cutV cutD
  rw [h.length]
  exact (h.drop _).take _
def slcD (d : D) (lo hi : Option Int) : Option D := match d with
  | .lst xs => some (.lst (cutD xs lo hi))
  | .scr xs => some (.lst (cutD xs lo hi))
  | .tup xs => some (.tup (cutD xs lo hi))
  | .ktup xs => if HT.sIx xs.length 0 lo = 0 ∧ HT.sIx xs.length xs.length hi = xs.length then some (.ktup xs) else some (.tup (cutD xs lo hi))
  | .str z => if z.length ≤ sizeLine then some (.str (cutS z lo hi)) else none
  | _ => none
def slcM (m : M D) (lo hi : MO) : M D := bindM m fun d => bindM lo fun l => bindM hi fun h => liftO (slcD d l h)
theorem cutD_all (xs : List D) (lo hi : Option Int) (h : HT.sIx xs.length 0 lo = 0 ∧ HT.sIx xs.length xs.length hi = xs.length) : cutD xs lo hi = xs := by
  unfold cutD
  rw [h.1, h.2]
  simp
theorem de_slice {p2 : Pos} {lo hi : Option Expr} {ml mh : MO} (ha : DE X W ω a .fz m) (hl : DO X W ω lo ml) (hh : DO X W ω hi mh) : DE X W ω (.Subscript a (.Slice lo hi none p2) pos) .fz (slcM m ml mh) :=
  PE.imp (pe_slice (sl_list.or (sl_tupA.or sl_str)) ha hl hh) fun σ H Q ⟨F, G, ρ, S, q⟩ => by
    refine ⟨F, G, ρ, S, Res.sat_mono (Res.sat_bind q) (fun d ρ1 q1 v F1 H1 l1 S1 => ?_) fun _ _ z => z⟩
    obtain ⟨r, S2⟩ := S1.top
    refine ⟨F1, G, ρ1, S2, Res.sat_mono (Res.sat_bind q1) (fun o ρ2 q2 F2 H2 l2 S3 => ?_) fun _ _ z => z.le l1⟩
    refine ⟨F2, G, ρ2, S3, Res.sat_mono (Res.sat_bind q2) (fun o2 ρ3 q3 F3 H3 l3 S4 => ?_) fun _ _ z => z.le (l1.trans l2)⟩
    have r3 := r.mono (l2.trans l3)
    have l13 := l1.trans (l2.trans l3)
    have fin : ∀ {dd : D} {z : V} {F' H' : Hp}, slcD d o o2 = some dd → Gr F3 H3 F' H' → RD X.K F' z dd → Q z H' := fun {dd z F' H'} e g rz => by
      have q3 : (liftO (slcD d o o2) ρ3).sat _ _ := q3
      rw [e] at q3
      exact q3 z F' H' (l13.trans g.lf) ((S4.gr g).push rz)
    have q3 : (liftO (slcD d o o2) ρ3).sat _ _ := q3
    cases ed : slcD d o o2 with
    | none => rw [ed] at q3; exact q3.elim
    | some dd =>
      clear q3
      cases r3 with
      | lst h s =>
        cases ed
        refine .inl ⟨_, _, rfl, SqL.of (S4.fH _ _ h), fun p np => fin rfl (Gr.one S4.fH np) (.lst upd_same ((s.cut o o2).mono (Le.upd (S4.fH.none np))))⟩
      | scr h s =>
        cases ed
        refine .inl ⟨_, _, rfl, SqL.mono S4.fH h, fun p np => fin rfl (Gr.one S4.fH np) (.lst upd_same ((s.cut o o2).mono (Le.upd (S4.fH.none np))))⟩
      | tup h s =>
        cases ed
        refine .inr (.inl ⟨_, _, rfl, SqT.of (S4.fH _ _ h), fun e => fin rfl (Gr.refl S4.fH) ?_, fun _ p np => fin rfl (Gr.one S4.fH np) (.tup upd_same ((s.cut o o2).mono (Le.upd (S4.fH.none np))))⟩)
        rw [s.length] at e
        rw [cutD_all _ _ _ e]
        exact .tup h s
      | ktup h s =>
        rename_i ds
        by_cases hc : HT.sIx ds.length 0 o = 0 ∧ HT.sIx ds.length ds.length o2 = ds.length
        · refine .inr (.inl ⟨_, _, rfl, SqT.mono S4.fH h, fun e => fin (if_pos hc) (Gr.refl S4.fH) (.ktup h s), fun ne p np => absurd (by rw [s.length]; exact hc) ne⟩)
        · refine .inr (.inl ⟨_, _, rfl, SqT.mono S4.fH h, fun e => absurd (by rw [s.length] at e; exact e) hc, fun _ p np => fin (if_neg hc) (Gr.one S4.fH np) (.tup upd_same ((s.cut o o2).mono (Le.upd (S4.fH.none np))))⟩)
      | str z =>
        have ed : (if z.length ≤ sizeLine then some (D.str (cutS z o o2)) else none) = some dd := ed
        by_cases hz : z.length ≤ sizeLine
        · rw [if_pos hz] at ed
          cases ed
          exact .inr (.inr ⟨_, rfl, hz, fin (by show (if z.length ≤ sizeLine then some (D.str (cutS z o o2)) else none) = _; rw [if_pos hz]) (Gr.refl S4.fH) (.str _)⟩)
        · rw [if_neg hz] at ed; cases ed
      | _ => cases ed
/-! ### a op b op' c -/
def chainM (g g' : D → D → Option D) (m1 m2 m3 : M D) : M D := bindM m1 fun x => bindM m2 fun y => bindM (liftO (g x y)) fun t => match t with
  | .bl true => bindM m3 fun z => liftO (g' y z)
  | .bl false => pureM (.bl false)
  | _ => failM
theorem tMF_liftD {F : Hp} {o : Option D} {k : D → M D} {σ : L2.St} {H : Hp} {Q : VK} (h : tMF X.K X.mg W ω sh F (bindM (liftO o) k) σ H Q) : Le F H ∧ ∃ d, o = some d ∧ tMF X.K X.mg W ω sh F (k d) σ H Q := by
  obtain ⟨G, ρ, S, h⟩ := h
  cases o with
  | none => exact h.elim
  | some d => exact ⟨S.fH, d, rfl, G, ρ, S, h⟩
/-- chains of whole numbers' comparisons -/
theorem de_chain {op op' : CmpOp} {p p' : Int → Int → Bool} (ho : OpR X (compareOp op) (rI0 fun i j => .bl (p i j))) (ho' : OpR X (compareOp op') (rI0 fun i j => .bl (p' i j))) (ha : DE X W ω a .fz m1) (hb : DE X W ω b .fz m2) (hc : DE X W ω c .fz m3)
    (hm : lastMarks [op, op'] [b, c] = false := by with_unfolding_all rfl) : DE X W ω (.Compare a [op, op'] [b, c] pos) .fz (chainM (gInt p) (gInt p') m1 m2 m3) :=
  PE.imp (pe_chain ho ho' ha hb hc hm) fun σ H Q q => by
    obtain ⟨F, q⟩ := tM_bind q
    refine ⟨F, tMF_mono q fun x H1 ⟨d1, F1, r1, q1⟩ => ⟨F1, tMF_mono (tMF_bind q1) fun y H2 ⟨d2, F2, l2, r2, q2⟩ => ?_⟩⟩
    obtain ⟨l, t, e, q3⟩ := tMF_liftD q2
    cases r1 with
    | int i =>
      cases r2 with
      | int j =>
        cases e
        refine ⟨_, _, rfl, rfl, _, rfl, ?_⟩
        cases h : p i j with
        | false =>
          rw [h] at q3
          rw [if_neg Bool.false_ne_true]
          obtain ⟨_, z⟩ := tMF_ret q3
          exact z _ F2 H2 (Gr.refl l) (.bl _)
        | true =>
          rw [h] at q3
          rw [if_pos rfl]
          refine ⟨F2, tMF_mono (tMF_bind q3) fun z H3 ⟨d3, F3, l3, r3, q4⟩ => ?_⟩
          obtain ⟨l4, r, e4, k4⟩ := tMF_lift q4
          cases r3 with
          | int k => cases e4; exact ⟨_, _, rfl, rfl, k4 _ F3 H3 (Gr.refl l4) (.bl _)⟩
          | _ => cases e4
      | _ => cases e
    | _ => cases e
/-! ### isinstance with a class that is built in, or several -/
def tyName : D → Option String
  | .non => some "NoneType"
  | .bl _ => some "bool"
  | .int _ => some "int"
  | .str _ => some "str"
  | .lst _ => some "list"
  | .scr _ => some "list"
  | .tup _ => some "tuple"
  | .ktup _ => some "tuple"
  | .dK _ => some "dict"
  | .dT _ => some "dict"
  | _ => none
theorem tyName.ok {K : Fg} {F H : Hp} {v : V} {d : D} {n : String} (r : RD K F v d) (l : Le F H) (e : tyName d = some n) : TyX K H v (.type n) := by
  cases r with
  | non => cases e; exact .base .non
  | bl b => cases e; exact .base (.bl b)
  | int b => cases e; exact .base (.int b)
  | str b => cases e; exact .base (.str b)
  | lst h s => cases e; exact .base (.lst (l _ _ h))
  | scr h s =>
    cases e
    rcases h with (h | ⟨o, h⟩) | ⟨o, its, n, hk, hc, _⟩
    · exact .base (.lst (l _ _ h))
    · exact .base (.frz (l _ _ h))
    · exact .kList hk hc
  | tup h s => cases e; exact .base (.tup (l _ _ h))
  | ktup h s =>
    cases e
    rcases h with (h | ⟨o, h⟩) | ⟨o, its, n, hk, hc, _⟩
    · exact .base (.tup (l _ _ h))
    · exact .fTuple (l _ _ h)
    · exact .kTuple hk hc
  | dK h _ _ => cases e; exact .base (.dK (l _ _ h))
  | dT h _ _ => cases e; exact .base (.dT (l _ _ h))
  | _ => cases e
/-- isinstance(x, T) -/
def isiD (T : String) (d : D) : Option D := match tyName d with
  | some n => (kitB n T).map .bl
  | none => none
theorem de_isi {T : String} {y : Str} {p p2 : Pos} (hg : Gl X "isinstance") (hm : X.mg "isinstance" = none) (ha : DE X W ω a .fz m) (hy : PE X (.Name y p2) (tC (.ty T)))
    (he : starEach (a :: [.Name y p2]) X.env = (false, eval a X.env) :: starEach [.Name y p2] X.env := by rfl) (he2 : starEach [.Name y p2] X.env = (false, eval (.Name y p2) X.env) :: starEach [] X.env := by rfl) (hpl : (backTo pos (starEach [.Name y p2] X.env)).any (·.1) = false := by rfl) :
    DE X W ω (.Call (.Name "isinstance" p) [a, .Name y p2] [] pos) .fz (un1 (isiD T) m) :=
  PE.imp (pe_callB call_isi hg hm boot_isinstance (pa_cons ha (pa_cons hy pa_nil he2) he) (by decide) (by decide) he hpl) fun σ H Q q => by
    obtain ⟨F, q⟩ := tun q
    refine ⟨F, tMF_mono q fun x H1 ⟨F1, d, r, e, l, rd, k⟩ => ?_⟩
    unfold isiD at e
    cases en : tyName d with
    | none => rw [en] at e; cases e
    | some n =>
      rw [en] at e
      obtain ⟨b, eb, rfl⟩ := Option.map_eq_some_iff.mp e
      exact ⟨_, _, _, _, b, rfl, .ty T, tyName.ok rd l en, kit_ty eb, k _ F1 H1 (Gr.refl l) (.bl _)⟩
/-- isinstance(x, (T1, T2)) -/
def isi2D (T1 T2 : String) (d : D) : Option D := match tyName d with
  | some n => (match kitB n T1, kitB n T2 with
    | some a, some b => some (.bl (a || b))
    | _, _ => none)
  | none => none
theorem de_isi2 {T1 T2 : String} {y z : Str} {k2 : Nat} {p p2 p3 p4 : Pos} (hg : Gl X "isinstance") (hm : X.mg "isinstance" = none) (ha : DE X W ω a .fz m) (hy : PE X (.Name y p2) (tC (.ty T1))) (hz : PE X (.Name z p3) (tC (.ty T2)))
    (he : starEach (a :: [.Tuple [.Name y p2, .Name z p3] k2 p4]) X.env = (false, eval a X.env) :: starEach [.Tuple [.Name y p2, .Name z p3] k2 p4] X.env := by rfl) (he2 : starEach [.Tuple [.Name y p2, .Name z p3] k2 p4] X.env = (false, eval (.Tuple [.Name y p2, .Name z p3] k2 p4) X.env) :: starEach [] X.env := by rfl)
    (h3 : starEach [.Name y p2, .Name z p3] X.env = (false, eval (.Name y p2) X.env) :: starEach [.Name z p3] X.env := by rfl) (h4 : starEach [.Name z p3] X.env = (false, eval (.Name z p3) X.env) :: starEach [] X.env := by rfl) (hpl : (backTo pos (starEach [.Tuple [.Name y p2, .Name z p3] k2 p4] X.env)).any (·.1) = false := by rfl) :
    DE X W ω (.Call (.Name "isinstance" p) [a, .Tuple [.Name y p2, .Name z p3] k2 p4] [] pos) .fz (un1 (isi2D T1 T2) m) :=
  PE.imp (pe_callB call_isiT hg hm boot_isinstance (pa_cons ha (pa_cons (pe_tup (pa_cons hy (pa_cons hz pa_nil h4) h3)) pa_nil he2) he) (by decide) (by decide) he hpl) fun σ H Q q => by
    obtain ⟨F, q⟩ := tun q
    refine ⟨F, tMF_mono q fun x H1 ⟨F1, d, r, e, l, rd, k⟩ => ?_⟩
    refine ⟨by show 2 ≤ sizeLine; decide, fun tp np => ?_⟩
    unfold isi2D at e
    cases en : tyName d with
    | none => rw [en] at e; cases e
    | some n =>
      rw [en] at e
      dsimp only at e
      cases e1 : kitB n T1 with
      | none => rw [e1] at e; cases e
      | some b1 =>
        cases e2 : kitB n T2 with
        | none => rw [e1, e2] at e; cases e
        | some b2 =>
          rw [e1, e2] at e
          cases e
          have gr := Gr.one (o := .tup [.ty T1, .ty T2]) l np
          refine ⟨_, tp, _, _, [.type T1, .type T2], b1 || b2, rfl, upd_same, .cons (.ty T1) (.cons (.ty T2) .nil), tyName.ok (rd.mono gr.lf) gr.fh en, ?_, k _ _ _ gr (.bl _)⟩
          refine kitAny_cons (kit_ty e1) (fun z => ?_) (fun z => by rw [z]; rfl)
          rw [z, Bool.false_or]
          exact kitAny_cons (kit_ty e2) (fun z => by rw [z]; exact kitAny_nil) (fun z => z)
/-! ### in, not in; index -/
def flatE : D → Bool
  | .ty _ => false
  | d => flatD d
def flatDs (ds : List D) : Bool := ds.all flatE
def okDs (ds : List D) : Bool := plainDs ds && SeqAt.shaped (.list (toPs ds))
def hasD (x : D) (ds : List D) : Bool := ds.any fun y => eqD y x
def gIn : D → D → Option D := fun x y => match y with
  | .lst ds => if okD x && okDs ds then some (.bl (hasD x ds)) else none
  | .tup ds => if flatE x && flatDs ds then some (.bl (hasD x ds)) else none
  | .ktup ds => if flatE x && flatDs ds then some (.bl (hasD x ds)) else none
  | _ => none
def gNotIn : D → D → Option D := fun x y => match y with
  | .lst ds => if okD x && okDs ds then some (.bl (!hasD x ds)) else none
  | .tup ds => if flatE x && flatDs ds then some (.bl (!hasD x ds)) else none
  | .ktup ds => if flatE x && flatDs ds then some (.bl (!hasD x ds)) else none
  | _ => none
theorem any_toPs (x : D) : ∀ ds : List D, ((toPs ds).any fun z => PyData.eqv z (toP x)) = hasD x ds
  | [] => rfl
  | d :: ds => by
    show (PyData.eqv (toP d) (toP x) || (toPs ds).any fun z => PyData.eqv z (toP x)) = _
    rw [any_toPs x ds]; rfl
theorem okDs.dp {K : Fg} {F H : Hp} {p : Addr} {xs : List V} {ds : List D} (h : F p = some (.lst xs)) (r : RDs K F xs ds) (l : Le F H) (k : okDs ds = true) : Dp K H (.ref p) (.list (toPs ds)) ∧ SeqAt.shaped (.list (toPs ds)) = true := by
  unfold okDs at k
  rw [Bool.and_eq_true] at k
  exact ⟨.lst (SqL.of (l _ _ h)) ((r.mono l).dp k.1), k.2⟩
/-- the flat values are told apart as the layer tells them -/
theorem eqV_D {K : Fg} {F : Hp} {x y : V} {d e : D} (r : RD K F x d) (q : RD K F y e) (h : flatE d = true) (h' : flatE e = true) : flatV x = true ∧ flatV y = true ∧ eqV y x = eqD e d := by
  cases r <;> first | (cases h; done) | skip
  all_goals (cases q <;> first | (cases h'; done) | skip)
  all_goals refine ⟨rfl, rfl, ?_⟩
  all_goals first
    | rfl
    | simp [eqV, eqD, toP, PyData.eqv]
theorem inV_D {K : Fg} {F : Hp} {x : V} {d : D} (r : RD K F x d) (h : flatE d = true) : ∀ {vs : List V} {ds : List D}, RDs K F vs ds → flatDs ds = true → vs.all flatV = true ∧ inV x vs = hasD d ds
  | _, _, .nil, _ => ⟨rfl, rfl⟩
  | _, _, .cons q qs, h' => by
    have h' : (flatE _ && flatDs _) = true := h'
    rw [Bool.and_eq_true] at h'
    obtain ⟨a, b⟩ := inV_D r h qs h'.2
    obtain ⟨c, e, f⟩ := eqV_D r q h h'.1
    refine ⟨by rw [List.all_cons, e, a]; rfl, ?_⟩
    unfold inV hasD at b ⊢
    rw [List.any_cons, List.any_cons, b, f]
theorem od_in (hu : X.A.units + 65 < cLine) : OpD X (compareOp .In) gIn := fun F d1 d2 r e => by
  unfold gIn at e
  split at e
  · split at e
    · rename_i h
      cases e
      rw [Bool.and_eq_true] at h
      refine OpR.imp (op_inD hu) fun x y H Q ⟨l, r1, r2, q⟩ => ?_
      cases r2 with
      | lst hp rs =>
        obtain ⟨a1, a2⟩ := okD.dp r1 l h.1
        obtain ⟨b1, b2⟩ := okDs.dp hp rs l h.2
        exact ⟨_, _, a1, b1, a2, b2, by rw [any_toPs]; exact q _ F H (Gr.refl l) (.bl _)⟩
    · cases e
  · split at e
    · rename_i h
      cases e
      rw [Bool.and_eq_true] at h
      refine OpR.imp op_in_seq fun x y H Q ⟨l, r1, r2, q⟩ => ?_
      cases r2 with
      | tup hp rs =>
        obtain ⟨a, b⟩ := inV_D r1 h.1 rs h.2
        obtain ⟨c, _, _⟩ := eqV_D r1 r1 h.1 h.1
        refine ⟨_, _, rfl, .inr (SqT.of (l _ _ hp)), c, a, ?_⟩
        rw [if_neg Bool.false_ne_true, b]
        exact q _ F H (Gr.refl l) (.bl _)
    · cases e
  · split at e
    · rename_i h
      cases e
      rw [Bool.and_eq_true] at h
      refine OpR.imp op_in_seq fun x y H Q ⟨l, r1, r2, q⟩ => ?_
      cases r2 with
      | ktup hp rs =>
        obtain ⟨a, b⟩ := inV_D r1 h.1 rs h.2
        obtain ⟨c, _, _⟩ := eqV_D r1 r1 h.1 h.1
        refine ⟨_, _, rfl, .inr (SqT.mono l hp), c, a, ?_⟩
        rw [if_neg Bool.false_ne_true, b]
        exact q _ F H (Gr.refl l) (.bl _)
    · cases e
  · cases e
theorem od_notIn (hu : X.A.units + 65 < cLine) : OpD X (compareOp .NotIn) gNotIn := fun F d1 d2 r e => by
  unfold gNotIn at e
  split at e
  · split at e
    · rename_i h
      cases e
      rw [Bool.and_eq_true] at h
      refine OpR.imp (op_notInD hu) fun x y H Q ⟨l, r1, r2, q⟩ => ?_
      cases r2 with
      | lst hp rs =>
        obtain ⟨a1, a2⟩ := okD.dp r1 l h.1
        obtain ⟨b1, b2⟩ := okDs.dp hp rs l h.2
        exact ⟨_, _, a1, b1, a2, b2, by rw [any_toPs]; exact q _ F H (Gr.refl l) (.bl _)⟩
    · cases e
  · split at e
    · rename_i h
      cases e
      rw [Bool.and_eq_true] at h
      refine OpR.imp op_notIn_seq fun x y H Q ⟨l, r1, r2, q⟩ => ?_
      cases r2 with
      | tup hp rs =>
        obtain ⟨a, b⟩ := inV_D r1 h.1 rs h.2
        obtain ⟨c, _, _⟩ := eqV_D r1 r1 h.1 h.1
        refine ⟨_, _, rfl, .inr (SqT.of (l _ _ hp)), c, a, ?_⟩
        rw [if_pos rfl, b]
        exact q _ F H (Gr.refl l) (.bl _)
    · cases e
  · split at e
    · rename_i h
      cases e
      rw [Bool.and_eq_true] at h
      refine OpR.imp op_notIn_seq fun x y H Q ⟨l, r1, r2, q⟩ => ?_
      cases r2 with
      | ktup hp rs =>
        obtain ⟨a, b⟩ := inV_D r1 h.1 rs h.2
        obtain ⟨c, _, _⟩ := eqV_D r1 r1 h.1 h.1
        refine ⟨_, _, rfl, .inr (SqT.mono l hp), c, a, ?_⟩
        rw [if_pos rfl, b]
        exact q _ F H (Gr.refl l) (.bl _)
    · cases e
  · cases e
/-! ### methods of built-in types, on what is frozen -/
def tyD (T : String) : D → Bool
  | .str _ => T == "str"
  | .int _ => T == "int"
  | .lst _ => T == "list"
  | .dK _ => T == "dict"
  | .dT _ => T == "dict"
  | _ => false
theorem tyD.ok {K : Fg} {F H : Hp} {T : String} {v : V} {d : D} (r : RD K F v d) (l : Le F H) (h : tyD T d = true) : tyV K T v H := by
  cases r with
  | str x => exact beq_iff_eq.mp h
  | int x => exact beq_iff_eq.mp h
  | lst hp rs => exact .inl ⟨beq_iff_eq.mp h, _, SqL.of (l _ _ hp)⟩
  | dK hp _ _ => exact .inr (.inr (.inl ⟨beq_iff_eq.mp h, .inl ⟨_, l _ _ hp⟩⟩))
  | dT hp _ _ => exact .inr (.inr (.inl ⟨beq_iff_eq.mp h, .inr ⟨_, l _ _ hp⟩⟩))
  | _ => cases h
/-- the method id by data: the object, the arguments -/
def MetD (X : Cx) (T id : String) (g : D → List D → Option D) : Prop :=
  ∀ (F : Hp) (d : D) (ds : List D) (r : D), g d ds = some r → tyD T d = true ∧ MtR X id fun x xs H Q => Le F H ∧ RD X.K F x d ∧ RDs X.K F xs ds ∧ ∀ z F' H', Gr F H F' H' → RD X.K F' z r → Q z H'
def metM (g : D → List D → Option D) (m : M D) (ms : M (List D)) : M D := bindM m fun d => bindM ms fun ds => liftO (g d ds)
/-- what is known of the object ahead of the arguments: T's value -/
def metM' (T : String) (g : D → List D → Option D) (m : M D) (ms : M (List D)) : M D := bindM m fun d => if tyD T d = true then bindM ms fun ds => liftO (g d ds) else failM
theorem de_met {o : Expr} {es : List Expr} {T id : String} {name : Str} {apos cpos : Pos} {g : D → List D → Option D} {ms : M (List D)} (hm : MetD X T id g) (ho : DE X W ω o .fz m) (ha : DA X W ω es ms)
    (hx : PE X (.Call (.Attribute o name apos) es [] cpos) (fun σ H Q => tM X.K X.mg W ω .fz m σ H fun x H1 => tyV X.K T x H1 ∧ tA X.K X.mg W ω ms σ H1 fun xs H2 => ∃ F d ds r, g d ds = some r ∧ Le F H2 ∧ RD X.K F x d ∧ RDs X.K F xs ds ∧ ∀ z F' H', Gr F H2 F' H' → RD X.K F' z r → Q z H')) :
    DE X W ω (.Call (.Attribute o name apos) es [] cpos) .fz (metM' T g m ms) :=
  PE.imp hx fun σ H Q q => by
    obtain ⟨F, q⟩ := tM_bind q
    refine ⟨F, tMF_mono q fun x H1 ⟨d, F1, r1, q1⟩ => ?_⟩
    by_cases ht : tyD T d = true
    · rw [if_pos ht] at q1
      obtain ⟨G, ρ, S, q1⟩ := q1
      refine ⟨tyD.ok r1 S.fH ht, F1, G, ρ, S, Res.sat_mono (Res.sat_bind q1) (fun ds ρ1 p vs F2 H2 l S2 rs => ?_) fun _ _ z => z⟩
      cases eg : g d ds with
      | none => rw [eg] at p; exact p.elim
      | some r =>
        rw [eg] at p
        exact ⟨F2, d, ds, r, eg, S2.fH, r1.mono l, rs, fun z F' H' gr rz => p z F' H' (l.trans gr.lf) ((S2.gr gr).push rz)⟩
    · rw [if_neg ht] at q1
      obtain ⟨_, _, _, q1⟩ := q1
      exact q1.elim
theorem metR {T id : String} {g : D → List D → Option D} (hm : MetD X T id g) : MtR X id fun x xs H Q => ∃ F d ds r, g d ds = some r ∧ Le F H ∧ RD X.K F x d ∧ RDs X.K F xs ds ∧ ∀ z F' H', Gr F H F' H' → RD X.K F' z r → Q z H' :=
  fun pins s σ H x xs v us Q I rx rxs ⟨F, d, ds, r, e, q⟩ => (hm F d ds r e).2 pins s σ H x xs v us Q I rx rxs q
/-- xs.index(x): the first place of an equal one -/
def gIndex : D → List D → Option D
  | .lst xs, [y] => if okDs xs && okD y then (xs.findIdx? fun z => eqD z y).map fun (j : Nat) => .int (j : Int) else none
  | _, _ => none
theorem toPs_get : ∀ (ds : List D) (i : Nat), (toPs ds)[i]? = ds[i]?.map toP
  | [], i => by simp [toPs]
  | d :: ds, 0 => by simp [toPs]
  | d :: ds, i + 1 => by simpa [toPs] using toPs_get ds i
theorem md_index (hu : X.A.units + 65 < cLine) : MetD X "list" "list.index" gIndex := fun F d ds r e => by
  unfold gIndex at e
  split at e
  · split at e
    · rename_i xs y h
      rw [Bool.and_eq_true] at h
      obtain ⟨j, ej, rfl⟩ := Option.map_eq_some_iff.mp e
      refine ⟨rfl, fun pins s σ H x zs v us Q I rx rxs ⟨l, r1, rs, q⟩ => ?_⟩
      cases r1 with
      | lst hp s1 =>
        cases rs with
        | cons r2 rs =>
          cases rs
          obtain ⟨b1, b2⟩ := okDs.dp hp s1 l h.1
          obtain ⟨a1, a2⟩ := okD.dp r2 l h.2
          rw [List.findIdx?_eq_some_iff_getElem] at ej
          obtain ⟨hj, hjt, hno⟩ := ej
          refine mt_indexD hu pins s σ H _ _ v us Q I rx rxs ⟨_, _, toP y, toPs xs, j, toP xs[j], rfl, rfl, b1, a1, b2, a2, by rw [toPs_get]; simp [hj], hjt, fun m z' hm hz => ?_, q _ F H (Gr.refl l) (.int _)⟩
          rw [toPs_get, List.getElem?_eq_getElem (by omega)] at hz
          cases hz
          have := hno m hm
          simpa [eqD] using this
    · cases e
  · cases e
/-! ### list(x), tuple(x) -/
def gList : List D → Option D
  | [.lst xs] => some (.lst xs)
  | [.tup xs] => some (.lst xs)
  | [.ktup xs] => some (.lst xs)
  | [.scr xs] => some (.lst xs)
  | _ => none
theorem cd_list : CallD X (.type "list") gList := fun F ds r e => by
  unfold gList at e
  split at e
  · cases e
    refine CallR.imp call_list_of fun xs H Q ⟨l, rs, q⟩ => ?_
    cases rs with | cons r rs => cases rs; cases r with | lst h s => exact ⟨_, _, rfl, .inl (SqL.of (l _ _ h)), fun p np => q _ _ _ (Gr.one l np) (.lst upd_same (s.mono (Le.upd (l.none np))))⟩
  · cases e
    refine CallR.imp call_list_of fun xs H Q ⟨l, rs, q⟩ => ?_
    cases rs with | cons r rs => cases rs; cases r with | tup h s => exact ⟨_, _, rfl, .inr (SqT.of (l _ _ h)), fun p np => q _ _ _ (Gr.one l np) (.lst upd_same (s.mono (Le.upd (l.none np))))⟩
  · cases e
    refine CallR.imp call_list_of fun xs H Q ⟨l, rs, q⟩ => ?_
    cases rs with | cons r rs => cases rs; cases r with | ktup h s => exact ⟨_, _, rfl, .inr (SqT.mono l h), fun p np => q _ _ _ (Gr.one l np) (.lst upd_same (s.mono (Le.upd (l.none np))))⟩
  · cases e
    refine CallR.imp call_list_of fun xs H Q ⟨l, rs, q⟩ => ?_
    cases rs with | cons r rs => cases rs; cases r with | scr h s => exact ⟨_, _, rfl, .inl (SqL.mono l h), fun p np => q _ _ _ (Gr.one l np) (.lst upd_same (s.mono (Le.upd (l.none np))))⟩
  · cases e
def gTuple : List D → Option D
  | [.lst xs] => some (.tup xs)
  | [.tup xs] => some (.tup xs)
  | [.ktup xs] => some (.ktup xs)
  | [.scr xs] => some (.tup xs)
  | _ => none
theorem cd_tuple : CallD X (.type "tuple") gTuple := fun F ds r e => by
  unfold gTuple at e
  split at e
  · cases e
    refine CallR.imp call_tuple_of fun xs H Q ⟨l, rs, q⟩ => ?_
    cases rs with | cons r rs => cases rs; cases r with | lst h s => exact ⟨_, _, rfl, .inl ⟨SqL.of (l _ _ h), fun p np => q _ _ _ (Gr.one l np) (.tup upd_same (s.mono (Le.upd (l.none np))))⟩⟩
  · cases e
    refine CallR.imp call_tuple_of fun xs H Q ⟨l, rs, q⟩ => ?_
    cases rs with | cons r rs => cases rs; cases r with | tup h s => exact ⟨_, _, rfl, .inr ⟨SqT.of (l _ _ h), q _ F H (Gr.refl l) (.tup h s)⟩⟩
  · cases e
    refine CallR.imp call_tuple_of fun xs H Q ⟨l, rs, q⟩ => ?_
    cases rs with | cons r rs => cases rs; cases r with | ktup h s => exact ⟨_, _, rfl, .inr ⟨SqT.mono l h, q _ F H (Gr.refl l) (.ktup h s)⟩⟩
  · cases e
    refine CallR.imp call_tuple_of fun xs H Q ⟨l, rs, q⟩ => ?_
    cases rs with | cons r rs => cases rs; cases r with | scr h s => exact ⟨_, _, rfl, .inl ⟨SqL.mono l h, fun p np => q _ _ _ (Gr.one l np) (.tup upd_same (s.mono (Le.upd (l.none np))))⟩⟩
  · cases e
end
end DL
/-! DL: what the head says of an own exception's __init__. -/
namespace DL
open PySem PySem.Spec PyProof.Rows L2
/-- an exception class x; its __init__, its fields, its file -/
structure XD where
  x : Str
  qual : Str
  params : Arguments
  body : List Stmt
  scope : Scope
  fs : List Str
  file : Str
def xIni (K : Fg) (x : Str) : Addr := He.ma K (He.ga K x) "__init__"
def fnWE (K : Fg) (x : Str) : He.FnW := match K.lookup (xIni K x) with
  | some ⟨_, _, .func fd, _⟩ => some (fd.name, fd.qualname, fd.params, fd.body, fd.scope, fd.globals, fd.closure.map (fun p => (p.1, 0)), fd.builtins)
  | _ => none
def XD.val (d : XD) : He.FnW := some ("__init__", d.qual, d.params, .stmts d.body, d.scope, mainGlobals, [("__class__", 0)], builtinsNs)
def oexB (K : Fg) (C : Addr) : Bool := (match K.lookup C with
  | some ⟨.type t, _, .cls cd, sl⟩ => decide (t = "type") && ((match cd.mro with
    | .ref C' :: bm => decide (C' = C) && PySem.HandSPX.refsVE bm
    | _ => false) && (cd.hasDict && (!cd.hasDel && (match sl.toList with
    | [_, _, _, _, some (.builtin b), _] => decide (b = "ValueError.__new__")
    | _ => false))))
  | _ => false) &&
  (decide (PySem.W.findIn K (.ref C) "__setattr__" = some (some (.builtin "object.__setattr__"))) && (decide (PySem.W.subIn K (.ref C) (.type "BaseException") = some true) && (decide (PySem.W.typeIn K (.ref C) = some (.type "type")) && PySem.W.keepIn K (.ref C))))
theorem oexB.ok {K : Fg} {C : Addr} (h : oexB K C = true) : OexC K C := by
  unfold oexB at h
  obtain ⟨h1, h2⟩ := He.ba h
  obtain ⟨h2, h3⟩ := He.ba h2
  obtain ⟨h3, h4⟩ := He.ba h3
  obtain ⟨h4, h5⟩ := He.ba h4
  refine ⟨?_, of_decide_eq_true h2, of_decide_eq_true h3, of_decide_eq_true h4, h5⟩
  cases q : K.lookup C with
  | none => rw [q] at h1; cases h1
  | some o =>
    obtain ⟨oc, od, dt, sl⟩ := o
    rw [q] at h1
    cases oc with
    | type t =>
      cases dt with
      | cls cd =>
        obtain ⟨x1, x2⟩ := He.ba h1
        obtain ⟨z2, x3⟩ := He.ba x2
        obtain ⟨z3, x4⟩ := He.ba x3
        obtain ⟨z4, z5⟩ := He.ba x4
        clear h1 x2 x3 x4
        have z1 := of_decide_eq_true x1
        obtain ⟨nm, bs, mr, ns, qn, hd, sn, sb, ab, cl, hdl⟩ := cd
        cases mr with
        | nil => cases z2
        | cons v bm =>
          cases v with
          | ref C' =>
            obtain ⟨y1, y2⟩ := He.ba z2
            have y1 := of_decide_eq_true y1
            obtain ⟨l⟩ := sl
            match l, z5 with
            | [a0, a1, a2, a3, some (.builtin b), a5], z5 =>
              have z5 : decide (b = "ValueError.__new__") = true := z5
              have z5 := of_decide_eq_true z5
              subst z1 y1 z5
              have z3 : hd = true := z3
              have z4 : (!hdl) = true := z4
              subst z3
              cases hdl with
              | true => cases z4
              | false =>
              clear z4
              exact ⟨_, _, _, _, _, _, _, _, _, _, _, _, _, _, _, rfl, y2⟩
          | _ => cases z2
      | _ => cases h1
    | _ => cases dt <;> cases h1
def fileB (K : Fg) (c : Addr) (file : Str) : Bool := match K.lookup c with
  | some ⟨_, _, .fields vs, _⟩ => (match (vs[2]? : Option Value) with
    | some (Value.str f _) => file == f
    | _ => false)
  | _ => false
def cellB (K : Fg) (c C : Addr) : Bool := match K.lookup c with
  | some ⟨_, _, .cell (some (.ref C')), _⟩ => decide (C' = C)
  | _ => false
def noneV : Value → Bool
  | .none => true
  | _ => false
theorem noneV.ok {v : Value} (h : noneV v = true) : v = .none := by
  cases v <;> first | rfl | cases h
def XD.ok (K : Fg) (d : XD) : Bool := match K.lookup (xIni K d.x) with
  | some ⟨_, _, .func fd, _⟩ => (match fd.code, fd.closure with
    | .ref cda, [(_, cc)] => noneV fd.defaults && (PySem.W.codeIn K (.ref cda) d.qual && (fileB K cda d.file && (cellB K cc (He.ga K d.x) && (oexB K (He.ga K d.x) &&
      (decide (PySem.W.findIn K (.ref (He.ga K d.x)) "__init__" = some (some (.ref (xIni K d.x)))) && (decide (PySem.W.typeIn K (.ref (xIni K d.x)) = some (.type "function")) && (decide (PySem.W.mroIn K (He.ga K d.x) (.ref (He.ga K d.x)) = some true) && (decide (PySem.W.subIn K (.ref (He.ga K d.x)) (.type "ValueError") = some true) &&
      (decide (PySem.W.nsIn K cStatics "thirdparty.any" = some none) && (decide (PySem.W.ks_superIn K (He.ga K d.x) (He.ga K d.x) "__init__" = some (some (.builtin "ValueError.__init__"))) && d.fs.all fun f => decide (PySem.W.findIn K (.ref (He.ga K d.x)) f = some none)))))))))))
    | _, _ => false)
  | _ => false
/-- what that says -/
theorem XD.says {K : Fg} {d : XD} (e : fnWE K d.x = d.val) (c : d.ok K = true) : ∃ (oc : Value) (od : Option Addr) (kV doc pm : Value) (an : Option Addr) (cda : Addr) (ct : Value) (cc : Addr) (osl : Array (Option Value)),
    K.lookup (xIni K d.x) = some ⟨oc, od, .func (PySem.W.ksFn "__init__" d.qual d.params d.body d.scope .none kV doc pm an (.ref cda) ct cc), osl⟩ ∧ PySem.W.codeIn K (.ref cda) d.qual = true ∧ fileB K cda d.file = true ∧ cellB K cc (He.ga K d.x) = true ∧ oexB K (He.ga K d.x) = true ∧
    PySem.W.findIn K (.ref (He.ga K d.x)) "__init__" = some (some (.ref (xIni K d.x))) ∧ PySem.W.typeIn K (.ref (xIni K d.x)) = some (.type "function") ∧ PySem.W.mroIn K (He.ga K d.x) (.ref (He.ga K d.x)) = some true ∧ PySem.W.subIn K (.ref (He.ga K d.x)) (.type "ValueError") = some true ∧
    PySem.W.nsIn K cStatics "thirdparty.any" = some none ∧ PySem.W.ks_superIn K (He.ga K d.x) (He.ga K d.x) "__init__" = some (some (.builtin "ValueError.__init__")) ∧ ∀ f ∈ d.fs, PySem.W.findIn K (.ref (He.ga K d.x)) f = some none := by
  unfold fnWE at e
  unfold XD.ok at c
  cases q : K.lookup (xIni K d.x) with
  | none => rw [q] at c; cases c
  | some o =>
    obtain ⟨oc, od, dt, osl⟩ := o
    rw [q] at c e
    cases dt with
    | func fd =>
      obtain ⟨n1, n2, n3, n4, n5, n6, n7, n8, n9, n10, n11, n12, n13, n14, n15⟩ := fd
      have e2 : (some (n1, n2, n3, n4, n5, n6, n7.map (fun p => (p.1, 0)), n15) : He.FnW) = some (("__init__" : Str), d.qual, d.params, FuncBody.stmts d.body, d.scope, mainGlobals, [(("__class__" : Str), (0 : Addr))], builtinsNs) := e
      simp only [Option.some.injEq, Prod.mk.injEq] at e2
      obtain ⟨h1, h2, h3, h4, h5, h6, h7, h8⟩ := e2
      subst h1 h2 h3 h4 h5 h6 h8
      match n13, n7, c, h7 with
      | .ref cda, [(nm, cc)], c, h7 =>
        have h7 : [((nm, 0) : Str × Addr)] = [(("__class__" : Str), (0 : Addr))] := h7
        have h8 : nm = ("__class__" : Str) := congrArg Prod.fst (List.cons.inj h7).1
        subst h8
        obtain ⟨c0, c1⟩ := He.ba c
        have hn8 : n8 = .none := noneV.ok c0
        subst hn8
        obtain ⟨c1, c2⟩ := He.ba c1
        obtain ⟨c2, c3⟩ := He.ba c2
        obtain ⟨c3, c4⟩ := He.ba c3
        obtain ⟨c4, c5⟩ := He.ba c4
        obtain ⟨c5, c6⟩ := He.ba c5
        obtain ⟨c6, c7⟩ := He.ba c6
        obtain ⟨c7, c8⟩ := He.ba c7
        obtain ⟨c8, c9⟩ := He.ba c8
        obtain ⟨c9, c10⟩ := He.ba c9
        obtain ⟨c10, c11⟩ := He.ba c10
        exact ⟨oc, od, n9, n10, n11, n12, cda, n14, cc, osl, rfl, c1, c2, c3, c4, of_decide_eq_true c5, of_decide_eq_true c6, of_decide_eq_true c7, of_decide_eq_true c8, of_decide_eq_true c9, of_decide_eq_true c10, fun f hf => of_decide_eq_true (List.all_eq_true.mp c11 f hf)⟩
    | _ => cases c
end DL
/-! DL: the head: facts by names, and more by a Bool. -/
namespace DL
open PySem PySem.Spec PyProof.Rows L2
abbrev AlB : Type := He.AlD × Bool × List He.FnW
/-- the facts; the tables are empty; the own exceptions -/
structure SaysB (fa : List He.Fa) (fn : List He.DefD) (xs : List XD) (ex : Fg → Bool) (h : Heap) (K : Fg) : Prop where
  d : He.SaysD fa fn K
  x : ex K = true
  t : ∀ p ∈ tabsOf K, h.get? p.1 = some { cls := .none, data := .fields #[] }
  e : ∀ d ∈ xs, fnWE K d.x = d.val ∧ d.ok K = true
theorem SaysB.exn {fa : List He.Fa} {fn : List He.DefD} {xs : List XD} {ex : Fg → Bool} {h : Heap} {K : Fg} (c : SaysB fa fn xs ex h K) (i : Nat) {d : XD} (hd : xs[i]? = some d := by rfl) : fnWE K d.x = d.val ∧ d.ok K = true := c.e d (List.mem_of_getElem? hd)
def tabsB (g : Addr → Option Obj) (K : Fg) : Bool := (tabsOf K).all fun p => match g p.1 with
  | some o => He.emptyTab o
  | none => false
def obsK (fa : List He.Fa) (fn : List He.DefD) (xs : List XD) (ex : Fg → Bool) (g : Addr → Option Obj) (K : Fg) : AlB := (He.obsD fa fn K, ex K && ((xs.all fun d => d.ok K) && tabsB g K), xs.map fun d => fnWE K d.x)
def obsB (n : Nat) (fa : List He.Fa) (fn : List He.DefD) (xs : List XD) (ex : Fg → Bool) (g : Addr → Option Obj) : AlB := obsK fa fn xs ex g (He.frT g (cStatics :: He.asD g n))
theorem saysB_of {n : Nat} {fa : List He.Fa} {fn : List He.DefD} {xs : List XD} {ex : Fg → Bool} {h : Heap} (e : obsB n fa fn xs ex h.get? = (He.valD fn, true, xs.map XD.val)) : SaysB fa fn xs ex h (He.frT h.get? (cStatics :: He.asD h.get? n)) := by
  generalize hK : He.frT h.get? (cStatics :: He.asD h.get? n) = K
  have e0 : obsK fa fn xs ex h.get? K = (He.valD fn, true, xs.map XD.val) := by rw [← hK]; exact e
  have e2 : (ex K && ((xs.all fun d => d.ok K) && tabsB h.get? K)) = true := congrArg (fun z : AlB => z.2.1) e0
  obtain ⟨h1, h2⟩ := He.ba e2
  obtain ⟨h2, h4⟩ := He.ba h2
  refine ⟨congrArg (fun z : AlB => z.1) e0, h1, fun p hp => ?_, fun d hd => ⟨?_, List.all_eq_true.mp h2 d hd⟩⟩
  · have h3 := List.all_eq_true.mp h4 p hp
    cases q : h.get? p.1 with
    | none =>
      rw [q] at h3
      cases h3
    | some o =>
      rw [q] at h3
      rw [He.emptyTab_eq h3]
  · have e3 : (xs.map fun d => fnWE K d.x) = xs.map XD.val := congrArg (fun z : AlB => z.2.2) e0
    exact List.map_inj_left.mp e3 d hd
def hookB (n : Nat) (fa : List He.Fa) (fn : List He.DefD) (xs : List XD) (ex : Fg → Bool) : PySem.W.Hook where
  α := AlB
  obs := fun s => obsB n fa fn xs ex s.heap.get?
  val := fun _ => (He.valD fn, true, xs.map XD.val)
  says := fun _ h => ∃ K : PySem.W.Frag, K.In h ∧ SaysB fa fn xs ex h K
  of := fun _ _ e => ⟨_, He.frT_in, saysB_of e⟩
  keeps := fun _ _ _ ⟨K, hK, c⟩ k => ⟨K, PySem.W.Frag.In.keeps hK k, ⟨c.d, c.x, fun p hp => k _ _ (c.t p hp), c.e⟩⟩
theorem obsB_eq {n : Nat} {fa : List He.Fa} {fn : List He.DefD} {xs : List XD} {ex : Fg → Bool} {g : Addr → Option Obj} {s : Shared} (h : ∀ a, g a = s.heap.get? a) : obsB n fa fn xs ex g = (hookB n fa fn xs ex).obs s := by
  have e : g = s.heap.get? := funext h
  rw [e] <;> rfl
/-- the code object of the function at f -/
def cdOf (K : Fg) (f : Addr) : Option Value := match K.lookup f with
  | some ⟨_, _, .func fd, _⟩ => some fd.code
  | _ => none
/-- a def's body by FunD -/
theorem fnGD {P : Program} {w : World} {K : Fg} {mg : Str → Option Value} {base : Heap} {k : Nat} {f : Addr} {N ps : List Str} {sp : Sp} {x qual : Str} {params : Arguments} {body : List Stmt} {scope : Scope} {dvs : List V} {kws : List (Str × V)} {fd : FuncData}
    (Fn : FunD K x qual params body scope dvs kws f fd) (S : FnScope N ps scope) (len : ∀ vs H Q E, sp vs H Q E → vs.length = ps.length)
    (hb : ∀ (cdv : Value) (A : Around) (outer : List Env) (s : Shared) (H : Hp) (vs : List V) (Q : VK) (E : XK), Room k (A.deeper (envOfC qual scope s.heap.objs.size f cdv)) → A.guards = some [] → cdOf K f = some cdv → sp vs H Q E →
      ∃ t, PSs (cxOf (L2.CX P w) P w K mg base N qual scope f cdv A outer s H E) body t ∧ t { nx := fun _ H' => Q .non H', rt := Q } (start N vs) H) : FnG P w K mg base (k + 1) f fd ps sp := by
  obtain ⟨oc, od, dV, kV, doc, pm, an, cdv, ct, osl, rfl, lk, hcd, _, _⟩ := Fn.ex
  refine ⟨len, fun A outer s H args us vs Q E room gd en bt rv want => ?_⟩
  have inK : K.In s.heap := en.mod.kin.keeps fun b o e => (en.bs b o e).1
  obtain ⟨t, body, reads⟩ := hb cdv A outer s H vs Q E (room.deeper _) gd (by unfold cdOf; rw [lk]) want
  have kinds : ∀ y ∈ ps.zip us, scope.names.lookup y.1 = some .local ∨ (scope.names.lookup y.1 = some .cell ∧ ((cellsFrom (s.heap.objs.size + 1) scope.names []).lookup y.1).isSome = true) := by
    rintro ⟨n, v⟩ hy
    exact (S.par n (List.of_mem_zip hy).1).imp id fun q => ⟨q, PySem.W.cellsFrom_some _ _ _ (.inl q)⟩
  refine codeAny_call_function room.depth (inK _ _ lk) rfl S.co S.gen rfl (PySem.W.codeRec_of inK hcd) (bt _ _ _ _ (wpAny_newFunctionEnv_cells S.kind kinds fun env he s1 x => ?_))
  subst he
  refine ⟨(en.mod.nolimit.keeps fun b o e => (en.bs b o e).1).keeps x.toInCall.keep, codeAny_func (wpAny_mono (body.run [] s1 (start N vs) H _ (inv_start S room.hd en (len _ _ _ _ want) rv x) reads) (fun fl s' hs => ?_) fun _ _ z => z)⟩
  cases fl with
  | next =>
    obtain ⟨σ', H', J, q⟩ := hs
    exact ⟨.non, H', J.os, J.bare, J.base, J.hok, rfl, q⟩
  | ret u =>
    obtain ⟨v, σ', H', J, r, q⟩ := hs
    exact ⟨v, H', J.os, J.bare, J.base, J.hok, r, q⟩
  | brk => exact hs.elim fun _ z => z.elim fun _ z => z.2.elim
  | cont => exact hs.elim fun _ z => z.elim fun _ z => z.2.elim
section
variable {P : Program} {w : World} {K : Fg} {mg : Str → Option Value} {base : Heap} {k : Nat} {f : Addr} {N ps : List Str} {x qual : Str} {params : Arguments} {body : List Stmt} {scope : Scope} {dvs : List V} {kws : List (Str × V)} {fd : FuncData}
/-- a def whose arguments are frozen -/
theorem fnFD {rs : Sh} {ω' : List Sh} {b : M Fl} (thru : Bool) (Fn : FunD K x qual params body scope dvs kws f fd) (S : FnScope N ps scope)
    (hb : ∀ (cdv : Value) (A : Around) (outer : List Env) (s : Shared) (H : Hp) (E : XK), Room k (A.deeper (envOfC qual scope s.heap.objs.size f cdv)) → A.guards = some [] → cdOf K f = some cdv →
      DSs (cxOf (L2.CX P w) P w K mg base N qual scope f cdv A outer s H E) (sxF N rs E) (List.replicate N.length .fz) body ω' b)
    (hn : ps.length ≤ N.length := by decide) (hrs : thru = true → rs = .fz := by first | exact fun _ => rfl | exact fun z => nomatch z) :
    FnG P w K mg base (k + 1) f fd ps (spF K mg ps.length rs (runB N.length [] thru b)) := by
  refine fnGD Fn S (fun vs H Q E h => h.1) fun cdv A outer s H vs Q E room gd hcd ⟨hl, F, G, ds, r, fH, gH, dj, q⟩ => ⟨_, hb cdv A outer s H E room gd hcd, ?_⟩
  have hds : ds.length = ps.length := by rw [← r.length]; exact hl
  refine ⟨F, G, ds.map some ++ List.replicate (N.length - ds.length) none, ⟨⟨[], ?_, fun _ m => by cases m⟩, fH, gH, dj⟩, ?_⟩
  · have o := (OwnL.rds (H := H) r).app (N.length - ds.length)
    rw [List.replicate_append_replicate, show ds.length + (N.length - ds.length) = N.length by omega] at o
    unfold L2.start
    rw [hl, ← hds]
    exact o
  · refine Res.sat_mono (runB_sat q) (fun fl ρ' z => ?_) fun e ρ' z => ?_
    · cases fl with
      | rt d => exact z
      | nx =>
        obtain ⟨ht, z⟩ := z
        cases hrs ht
        exact fun σ' F' H' l S' => z .non F' H' l (Sim.push ⟨⟨[], .nil, fun _ m => by cases m⟩, S'.fH, S'.gH, S'.dj⟩ .non)
      | bk => exact z.elim
      | ct => exact z.elim
    · exact fun σ' F' H' cls dx l S' x => z F' H' cls dx l S'.fH S'.gH S'.dj x
/-- a def whose first argument is a list that it changes for the caller -/
theorem fnPD {rs : Sh} {ω' : Addr → List Sh} {b : M Fl} {p0 : Str} {ps : List Str} (Fn : FunD K x qual params body scope dvs kws f fd) (S : FnScope N (p0 :: ps) scope)
    (hb : ∀ (cdv : Value) (A : Around) (outer : List Env) (s : Shared) (H : Hp) (E : XK) (a : Addr), Room k (A.deeper (envOfC qual scope s.heap.objs.size f cdv)) → A.guards = some [] → cdOf K f = some cdv →
      DSs (cxOf (L2.CX P w) P w K mg base N qual scope f cdv A outer s H E) (sxP N rs a E) (.pin a (.lst .fz) :: List.replicate (N.length - 1) .fz) body (ω' a) b)
    (hn : ps.length + 1 ≤ N.length := by decide) :
    FnG P w K mg base (k + 1) f fd (p0 :: ps) (spP K mg ps.length rs (runB N.length [.lst .fz] false b)) := by
  refine fnGD Fn S (fun vs H Q E h => h.1) fun cdv A outer s H vs Q E room gd hcd ⟨hl, F, G, a, xs, vs', ds, ds', ev, ha, fa, ga, rx, r, fH, gH, dj, q⟩ => ⟨_, hb cdv A outer s H E a room gd hcd, ?_⟩
  subst ev
  have hl' : vs'.length = ps.length := by simpa using hl
  have hds : ds'.length = ps.length := by rw [← r.length]; exact hl'
  refine ⟨F, G, (.lst ds :: ds').map some ++ List.replicate (N.length - (ds'.length + 1)) none, ⟨⟨[a] ++ [], ?_, fun x m => ?_⟩, fH, gH, dj⟩, ?_⟩
  · have o := (OwnL.rds (H := H) r).app (N.length - (ds'.length + 1))
    rw [List.replicate_append_replicate, show ds'.length + (N.length - (ds'.length + 1)) = N.length - 1 by omega] at o
    unfold L2.start
    rw [hl, ← hds]
    exact OwnL.bd (.pin (.lst ha (Owns.of_rds rx) (fun z => by cases z))) o (fun _ _ z => by cases z)
  · have : x = a := by simpa using m
    subst this; exact ⟨fa, ga⟩
  · refine Res.sat_mono (runB_sat q) (fun fl ρ' z => ?_) fun e ρ' z => ?_
    · cases fl with
      | rt d => exact z
      | nx => exact absurd z.1 Bool.false_ne_true
      | bk => exact z.elim
      | ct => exact z.elim
    · exact fun σ' F' H' cls dx l S' x => z F' H' cls dx l S'.fH S'.gH S'.dj x
end
/-- the goal that such a head leaves, from the law's worth -/
theorem walk_lawE {l : PySem.W.OpenLaw} {n k : Nat} {q : Program} {loose : List Str} {XP : (Str → Option Value) → Heap → Prop} {YP : World → Heap → Prop} {d : DefRec} {x : Str} {f : List D → Res D}
    (hn : l.most = some n) (hn2 : n ≤ sizeLine) (hdf : d.params.defaults = []) (hr : Room k callerA)
    (Fn : ∀ (w : World) (mg : Str → Option Value) (fa : Addr) (h : Heap), YP w h → h.Ns mainGlobals mg → mg d.name = some (.ref fa) →
      ∃ (K : Fg) (fd : FuncData), K.In h ∧ (∀ p ∈ tabsOf K, h.get? p.1 = some { cls := .none, data := .fields #[] }) ∧ (∀ (s : Shared) (u : Value), BindsTo s fd ⟨[u], []⟩ [(x, u)]) ∧ ∀ base : Heap, K.In base → base.Ns mainGlobals mg → BmOk K mg base → FnG l.prog w K mg base k fa fd [x] (spF K mg 1 .fz f))
    (hf : ∀ ns : List Int, ns.length ≤ n → ∃ ρ, f [.scr (ns.map D.int)] = .ok (.bl true) ρ) : PySem.W.WalkO q loose XP YP l.row.toRowW d [] (fun f vs => PySem.call f vs) := by
  refine Att.attach_call hn hdf fun w s₀ s₁ mg mb fa o pm cd doc a vs ns G Y ho hd hcd hmg hobj hints hlen hg => ?_
  obtain ⟨K, fd, KX, hT, hb, hF⟩ := Fn w mg fa _ Y G.T.g hmg
  exact law_run KX G.T.g G.T.b G.T.builtins G.T.nolimit hg hT G.T.bmain hobj hints (Nat.le_trans hlen hn2) hr hF hb (hf ns hlen)
end DL
/-! DL: the head's facts read from given addresses (no search of the heap in the kernel's run) -/
namespace DL
open PySem PySem.Spec PyProof.Rows L2
theorem saysK_of {fa : List He.Fa} {fn : List He.DefD} {xs : List XD} {ex : Fg → Bool} {h : Heap} {K : Fg} (e0 : obsK fa fn xs ex h.get? K = (He.valD fn, true, xs.map XD.val)) : SaysB fa fn xs ex h K := by
  have e2 : (ex K && ((xs.all fun d => d.ok K) && tabsB h.get? K)) = true := congrArg (fun z : AlB => z.2.1) e0
  obtain ⟨h1, h2⟩ := He.ba e2
  obtain ⟨h2, h4⟩ := He.ba h2
  refine ⟨congrArg (fun z : AlB => z.1) e0, h1, fun p hp => ?_, fun d hd => ⟨?_, List.all_eq_true.mp h2 d hd⟩⟩
  · have h3 := List.all_eq_true.mp h4 p hp
    cases q : h.get? p.1 with
    | none =>
      rw [q] at h3
      cases h3
    | some o =>
      rw [q] at h3
      rw [He.emptyTab_eq h3]
  · have e3 : (xs.map fun d => fnWE K d.x) = xs.map XD.val := congrArg (fun z : AlB => z.2.2) e0
    exact List.map_inj_left.mp e3 d hd
def obsA (as : List Addr) (fa : List He.Fa) (fn : List He.DefD) (xs : List XD) (ex : Fg → Bool) (g : Addr → Option Obj) : AlB := obsK fa fn xs ex g (He.frT g as)
def hookA (as : List Addr) (fa : List He.Fa) (fn : List He.DefD) (xs : List XD) (ex : Fg → Bool) : PySem.W.Hook where
  α := AlB
  obs := fun s => obsA as fa fn xs ex s.heap.get?
  val := fun _ => (He.valD fn, true, xs.map XD.val)
  says := fun _ h => ∃ K : PySem.W.Frag, K.In h ∧ SaysB fa fn xs ex h K
  of := fun _ _ e => ⟨_, He.frT_in, saysK_of e⟩
  keeps := fun _ _ _ ⟨K, hK, c⟩ k => ⟨K, PySem.W.Frag.In.keeps hK k, ⟨c.d, c.x, fun p hp => k _ _ (c.t p hp), c.e⟩⟩
theorem obsA_eq {as : List Addr} {fa : List He.Fa} {fn : List He.DefD} {xs : List XD} {ex : Fg → Bool} {g : Addr → Option Obj} {s : Shared} (h : ∀ a, g a = s.heap.get? a) : obsA as fa fn xs ex g = (hookA as fa fn xs ex).obs s := by
  have e : g = s.heap.get? := funext h
  rw [e] <;> rfl
/-- the address of a def's i-th default -/
def dflAdr (p : Str × Option Str) (i : Nat) (K : Fg) : Addr := match K.lookup (He.fAd K p) with
  | some ⟨_, _, .func fd, _⟩ => (match fd.defaults with
    | .ref T => (match K.lookup T with
      | some ⟨_, _, .seq its _, _⟩ => (match its.toList[i]? with
        | some (.ref a) => a
        | _ => 0)
      | _ => 0)
    | _ => 0)
  | _ => 0
/-- a def of defaults, called with every parameter -/
theorem bindsF {K : Fg} {x qual : Str} {params : Arguments} {body : List Stmt} {scope : Scope} {dvs : List V} {kws : List (Str × V)} {f : Addr} {fd : FuncData} {ps : List Str} (F : FunD K x qual params body scope dvs kws f fd) (hd : dvs ≠ [])
    (h : ∀ (T : Addr) (kV doc pm : Value) (an : Option Addr) (cdv ct : Value) (us its : List Value), us.length = ps.length → its.length = dvs.length →
      ∃ k, bindArgs (PySem.W.fnOf x qual params body scope (.ref T) kV doc pm an cdv ct) ⟨us, []⟩ = seqItems? (.ref T) >>= k ∧ k (some its.toArray) = pure (ps.zip us)) : Binds K fd ps [] := by
  obtain ⟨ds, r, b⟩ := F.binds1 (ps := ps) ps.length dvs.length hd (by omega) fun T kV doc pm an cdv ct us its l1 l2 => by
    obtain ⟨k, e1, e2⟩ := h T kV doc pm an cdv ct us its l1 l2
    refine ⟨k, e1, ?_⟩
    rw [e2, List.drop_eq_nil_of_le (by omega), List.append_nil]
  rw [List.drop_length] at r
  cases r
  exact b
end DL
/-! DL: what the printed walks take. -/
namespace DL
open PySem PySem.Spec PyProof.Rows L2
section
variable {X : Cx} {W : WX} {C : Sx} {ω : List Sh} {pos : Pos} {a b c e : Expr} {m m1 m2 m3 : M D} {sh : Sh}
/-- a list display that is owned -/
theorem de_lstO {es : List Expr} {ms : M (List D)} (ha : DA X W ω es ms) : DE X W ω (.List es pos) (.lst .fz) (appM gLst ms) :=
  PE.imp (pe_lst ha) fun σ H Q q => by
    obtain ⟨F, G, ρ, S, q⟩ := q
    refine (⟨F, G, ρ, S, Res.sat_mono (Res.sat_bind q) (fun ds ρ1 p vs F1 H1 l S1 rs => ?_) fun _ _ z => z⟩ : tA X.K X.mg W ω ms σ H _)
    by_cases hl : ds.length ≤ sizeLine
    · have p : ((if ds.length ≤ sizeLine then some (D.lst ds) else none : Option D) |> fun o => (liftO o ρ1).sat _ _) := p
      rw [if_pos hl] at p
      refine ⟨by rw [rs.length]; exact hl, fun pp np => p (.ref pp) F1 _ l ?_⟩
      obtain ⟨⟨fp, o, n⟩, a, b, dj⟩ := S1
      have fD : F1 pp = none := a.none np
      have gD : G pp = none := b.none np
      refine ⟨⟨[pp] ++ fp, .bd (.lst upd_same (Owns.of_rds rs) (fun z => by cases z)) (o.mono (Le.refl _) fun x m u e => by rw [upd_ne (ne_of_none e np)]; exact e) fun x m z => ?_, fun x m => ?_⟩, fun x u e => ?_, fun x u e => ?_, dj⟩
      · have : x = pp := by simpa using m
        subst this
        obtain ⟨u, e⟩ := o.live x z
        rw [np] at e; cases e
      · rcases List.mem_append.mp m with m | m
        · have : x = pp := by simpa using m
          subst this; exact ⟨fD, gD⟩
        · exact n x m
      · rw [upd_ne (ne_of_none e fD)]; exact a x u e
      · exact b.trans (Le.upd np) x u e
    · have p : ((if ds.length ≤ sizeLine then some (D.lst ds) else none : Option D) |> fun o => (liftO o ρ1).sat _ _) := p
      rw [if_neg hl] at p
      exact p.elim
/-- a, b = x, y -/
theorem ds_par2 {i j : Nat} {x y : Str} {a b : Expr} {ms : M (List D)} {px py pt : Pos} {kt k2 pt2} (wk : Wk ω C.ωe) (hi : ω[i]? = some .fz) (hj : ω[j]? = some .fz) (hc : X.calm = true) (hN : X.N.Nodup) (ha : DA X C.W ω [a, b] ms) (ni : X.N[i]? = some x := by rfl) (nj : X.N[j]? = some y := by rfl) (hij : i ≠ j := by decide)
    (hx : X.env.scope.names.lookup x = some .local := by rfl) (hy : X.env.scope.names.lookup y = some .local := by rfl)
    (hw : swappedStores [.Tuple [.Name x px, .Name y py] kt pt] (.Tuple [a, b] k2 pt2) X.env = pure (some [x, y]) := by rfl)
    (hs : swapsWithSole [.Tuple [.Name x px, .Name y py] kt pt] (.Tuple [a, b] k2 pt2) pos.line X.env = pure false := by rfl) :
    DS X C ω (.Assign [.Tuple [.Name x px, .Name y py] kt pt] (.Tuple [a, b] k2 pt2) pos) ω (parM i j ms) :=
  ds_par (t := tPar i j) wk hi hj (ps_par hc hN ni nj hij hx hy ha hw hs)
/-- a, b, c = x, y, z -/
def parM3 (i j l : Nat) (ms : M (List D)) : M Fl := bindM ms fun ds ρ => match ds with
  | [x, y, z] => .ok .nx (((ρ.set i (some x)).set j (some y)).set l (some z))
  | _ => .no
theorem ds_par3 {i j l : Nat} {x y z : Str} {a b c : Expr} {ms : M (List D)} {px py pz pt : Pos} {kt k2 pt2} (wk : Wk ω C.ωe) (hi : ω[i]? = some .fz) (hj : ω[j]? = some .fz) (hl : ω[l]? = some .fz) (hc : X.calm = true) (hN : X.N.Nodup) (ha : DA X C.W ω [a, b, c] ms) (ni : X.N[i]? = some x := by rfl) (nj : X.N[j]? = some y := by rfl) (nl : X.N[l]? = some z := by rfl) (hij : i ≠ j := by decide) (hil : i ≠ l := by decide) (hjl : j ≠ l := by decide)
    (hx : X.env.scope.names.lookup x = some .local := by rfl) (hy : X.env.scope.names.lookup y = some .local := by rfl) (hz : X.env.scope.names.lookup z = some .local := by rfl)
    (hw : swappedStores [.Tuple [.Name x px, .Name y py, .Name z pz] kt pt] (.Tuple [a, b, c] k2 pt2) X.env = pure (some [x, y, z]) := by rfl)
    (hs : swapsWithSole [.Tuple [.Name x px, .Name y py, .Name z pz] kt pt] (.Tuple [a, b, c] k2 pt2) pos.line X.env = pure false := by rfl) :
    DS X C ω (.Assign [.Tuple [.Name x px, .Name y py, .Name z pz] kt pt] (.Tuple [a, b, c] k2 pt2) pos) ω (parM3 i j l ms) :=
  PS.imp (ps_par3 hc hN ni nj nl hij hil hjl hx hy hz ha hw hs) fun D σ H q => by
    obtain ⟨F, G, ρ, S, h⟩ := tS_bindA wk q
    refine ⟨F, G, ρ, S, Res.sat_mono h (fun ds ρ' p vs F' H' l S' rs => ?_) fun _ _ z => z⟩
    obtain ⟨ds, F1, G, ρ1, rs, S1, z⟩ := p vs F' H' l S' rs
    split at z
    · cases rs with
      | cons r1 rs =>
        cases rs with
        | cons r2 rs =>
          cases rs with
          | cons r3 rs =>
            cases rs
            exact ⟨_, _, _, rfl, z _ F1 _ (Le.refl _) (((S1.setFz hi r1).setFz hj r2).setFz hl r3)⟩
    · exact z.elim
/-! ### // with a great positive divisor -/
def divOk (j : Int) : Bool := decide (j ≠ 0 ∧ j.natAbs < 1073741824) || decide (0 < j ∧ j.natAbs < 2 ^ 4000)
def gDivW : D → D → Option D
  | .int i, .int j => if divOk j then some (.int (i.fdiv j)) else none
  | _, _ => none
theorem od_divW : OpD X (binaryOp .FloorDiv) gDivW := fun F d1 d2 r e => by
  unfold gDivW at e
  split at e
  · rename_i i j
    split at e
    · rename_i h
      cases e
      unfold divOk at h
      rw [Bool.or_eq_true] at h
      rcases h with h | h
      · have h := of_decide_eq_true h
        refine OpR.imp op_fdivN fun x y H Q ⟨l, r1, r2, q⟩ => ?_
        cases r1; cases r2
        exact ⟨_, _, rfl, rfl, h, q _ F H (Gr.refl l) (.int _)⟩
      · have h := of_decide_eq_true h
        refine OpR.imp op_fdivW fun x y H Q ⟨l, r1, r2, q⟩ => ?_
        cases r1; cases r2
        refine ⟨_, _, rfl, rfl, wide_div h.1 h.2 (by decide) (by decide), ?_⟩
        show Q (.int (i / j)) H
        rw [← Int.fdiv_eq_ediv_of_nonneg i (Int.le_of_lt h.1)]
        exact q _ F H (Gr.refl l) (.int _)
    · cases e
  · cases e
/-! ### op= on whole numbers and texts -/
def gAddI : D → D → Option D
  | .int i, .int j => some (.int (i + j))
  | .str x, .str y => if x.length + y.length ≤ sizeLine then some (.str (x ++ y)) else none
  | _, _ => none
theorem od_iadd : OpD X (inplaceOp .Add) gAddI := fun F d1 d2 r e => by
  unfold gAddI at e
  split at e
  · cases e
    refine OpR.imp iop_add fun x y H Q ⟨l, r1, r2, q⟩ => ?_
    cases r1; cases r2
    exact ⟨_, _, rfl, rfl, q _ F H (Gr.refl l) (.int _)⟩
  · split at e
    · rename_i h
      cases e
      refine OpR.imp iop_add_str fun x y H Q ⟨l, r1, r2, q⟩ => ?_
      cases r1; cases r2
      exact ⟨_, _, rfl, rfl, h, q _ F H (Gr.refl l) (.str _)⟩
    · cases e
  · cases e
theorem od_isub : OpD X (inplaceOp .Sub) gSubI := opd_int0 iop_sub fun d1 d2 r e => by
  unfold gSubI at e
  split at e
  · cases e; exact ⟨_, _, rfl, rfl, rfl⟩
  · cases e
/-! ### module constants -/
theorem de_gint {x : Str} {i : Int} (hg : Gl X x) (hm : ∃ t, X.mg x = some (.int i t)) (hd : (x == ("__debug__" : Str)) = false := by decide) : DE X W ω (.Name x pos) .fz (pureM (.int i)) := by
  obtain ⟨t, hm⟩ := hm
  exact de_const (pe_glob (v := .int i) hg hm ⟨t, rfl⟩ hd) fun _ => .int i
theorem de_gstr {x : Str} {i : Str} (hg : Gl X x) (hm : ∃ t, X.mg x = some (.str i t)) (hd : (x == ("__debug__" : Str)) = false := by decide) : DE X W ω (.Name x pos) .fz (pureM (.str i)) := by
  obtain ⟨t, hm⟩ := hm
  exact de_const (pe_glob (v := .str i) hg hm ⟨t, rfl⟩ hd) fun _ => .str i
theorem de_gref {x : Str} {p : Addr} {d : D} (hg : Gl X x) (hm : X.mg x = some (.ref p)) (r : ∀ F, RD X.K F (.ref p) d) (hd : (x == ("__debug__" : Str)) = false := by decide) : DE X W ω (.Name x pos) .fz (pureM d) :=
  de_const (pe_glob (v := .ref p) hg hm rfl hd) r
/-- flat values of a table -/
def dvD : He.Dv → D
  | .non => .non
  | .bl b => .bl b
  | .int i => .int i
  | .str x => .str x
  | _ => .non
def dvFlat : He.Dv → Bool
  | .non => true
  | .bl b => true
  | .int i => true
  | .str x => true
  | _ => false
theorem dv_rds {K : Fg} {F : Hp} : ∀ {vs : List He.Dv}, vs.all dvFlat = true → RDs K F (vs.map (He.Dv.v K)) (vs.map dvD)
  | [], _ => .nil
  | v :: vs, h => by
    rw [List.all_cons, Bool.and_eq_true] at h
    refine .cons ?_ (dv_rds h.2)
    cases v with
    | non => exact .non
    | bl b => exact .bl b
    | int i => exact .int i
    | str x => exact .str x
    | _ => exact nomatch h.1
theorem gtup_rd {K : Fg} {x : Str} {vs : List He.Dv} (h : He.tupB K x vs = true) (hf : vs.all dvFlat = true := by rfl) : ∀ F, RD K F (.ref (He.ga K x)) (.ktup (vs.map dvD)) := fun F => .ktup (He.tupB_ok h F) (dv_rds hf)
/-! ### def's body, block -/
theorem lets0 : Lets X W0 := fun _ _ _ _ _ _ _ h => by
  obtain ⟨_, _, _, _, _, _, _, _, _, _, _, _, z⟩ := h
  exact z.elim
end
section
variable {P : Program} {w : World} {K : Fg} {mg : Str → Option Value} {base : Heap} {N : List Str} {qual : Str} {scope : Scope} {f : Addr} {cdv : Value} {A : Around} {outer : List Env} {s : Shared} {H : Hp} {E : XK}
theorem letsB : Lets (cxOf (L2.CX P w) P w K mg base N qual scope f cdv A outer s H E) (fun cls d _ H => E cls d H) := fun σ => passAt (takes_of rfl rfl rfl rfl) σ
theorem passB : PassesOwn (model P w) (A.deeper (envOfC qual scope s.heap.objs.size f cdv)) (envOfC qual scope s.heap.objs.size f cdv) (cxOf (L2.CX P w) P w K mg base N qual scope f cdv A outer s H E).xe := passes_of (X := cxOf (L2.CX P w) P w K mg base N qual scope f cdv A outer s H E) rfl
end
/-- a def that may be called: its promise, its binding, its name -/
structure Got (P : Program) (w : World) (K : Fg) (mg : Str → Option Value) (base : Heap) (k : Nat) (fd : FuncData) (x : Str) (ps : List Str) (sp : Sp) : Prop where
  fn : FnG P w K mg base k (He.ga K x) fd ps sp
  bd : Binds K fd ps []
  mg : mg x = some (.ref (He.ga K x))
  kp : PySem.W.keepIn K (.ref (He.ga K x)) = true
section
variable {X : Cx} {W : WX} {ω : List Sh} {k : Nat} {fd : FuncData} {ps : List Str} {x : Str} {p pos : Pos} {e : Expr} {es : List Expr} {ms : M (List D)} {rs : Sh} {g : List D → Res D} {np : Nat}
theorem dc (Fn : Got X.prog X.w X.K X.mg X.base k fd x ps (spF X.K X.mg np rs g)) (hr : Room k X.A) (gd : X.A.guards = some []) (hx : Lets X W) (ha : DA X W ω (e :: es) ms) (hg : Gl X x := by rfl) (hps : np = ps.length := by rfl)
    (hdb : (x == ("__debug__" : Str)) = false := by decide) (he : starEach (e :: es) X.env = (false, eval e X.env) :: starEach es X.env := by rfl) (hpl : (backTo pos (starEach es X.env)).any (·.1) = false := by rfl) :
    DE X W ω (.Call (.Name x p) (e :: es) [] pos) rs (callM np [] g ms) :=
  de_call Fn.fn hr gd hg Fn.mg Fn.kp Fn.bd .nil (fun _ => .nil) hx ha hps hdb he hpl
theorem dcP {s : Sh} {i : Nat} {y : Str} {py : Pos} (Fn : Got X.prog X.w X.K X.mg X.base k fd x ps (spP X.K X.mg np rs g)) (hr : Room k X.A) (gd : X.A.guards = some []) (hx : Lets X W) (h1 : ω[i]? = some s) (hs : coreSh s = .lst .fz) (hv : PE X (.Name y py) (tVar i)) (ha : DA X W ω es ms) (hg : Gl X x := by rfl) (hps : np + 1 = ps.length := by rfl)
    (hdb : (x == ("__debug__" : Str)) = false := by decide) (hst : starEach (.Name y py :: es) X.env = (false, eval (.Name y py) X.env) :: starEach es X.env := by rfl) (hpl : (backTo pos (starEach es X.env)).any (·.1) = false := by rfl) :
    DE X W ω (.Call (.Name x p) (.Name y py :: es) [] pos) rs (callP np [] g i ms) :=
  de_callP Fn.fn hr gd hg Fn.mg Fn.kp Fn.bd .nil (fun _ => .nil) hx h1 hs hv ha hps hdb hst hpl
/-- a rearrangement by keywords -/
def KwB (K : Fg) (fd : FuncData) (ps ks : List Str) (ix : List Nat) : Prop := ∀ (s : Shared) (ws : List Value), K.In s.heap → ws.length = ks.length → BindsTo s fd ⟨[], ks.zip ws⟩ (ps.zip (byIx ix ws))
theorem dck {ix : List Nat} {ks : List Str} {kws : List Keyword} (Fn : Got X.prog X.w X.K X.mg X.base k fd x ps (spF X.K X.mg np rs g)) (hb : KwB X.K fd ps ks ix) (hr : Room k X.A) (gd : X.A.guards = some []) (hx : Lets X W) (ha : DK X W ω kws ms) (hix : ∀ xs : List V, xs.length = np → (byIx ix xs).length = np) (hg : Gl X x := by rfl) (hnk : ks.length = np := by rfl)
    (hks : (backToKw pos (keywordEach kws X.env)).filterMap (·.1) = ks := by rfl) (hall : (backToKw pos (keywordEach kws X.env)).all (·.1.isSome) = true := by rfl)
    (hdb : (x == ("__debug__" : Str)) = false := by decide) (hpl : ((backTo pos (starEach [] X.env)).any (·.1) || (backToKw pos (keywordEach kws X.env)).any (·.1.isNone)) = false := by rfl) :
    DE X W ω (.Call (.Name x p) [] kws pos) rs (callM np [] (fun ds => g (byIx ix ds)) ms) :=
  de_callK Fn.fn hr gd hg Fn.mg Fn.kp hb hx ha hnk hks hall hix hdb hpl
/-- built-ins -/
theorem db {id : String} {gg : List D → Option D} (hc : CallD X (.builtin id) gg) (hm : X.mg x = none) (hv : bootBuiltins x = some (.builtin id)) (ha : DA X W ω (e :: es) ms) (hg : Gl X x := by rfl)
    (hn : x ≠ "__name__" := by decide) (hdb : (x == ("__debug__" : Str)) = false := by decide) (he : starEach (e :: es) X.env = (false, eval e X.env) :: starEach es X.env := by rfl) (hpl : (backTo pos (starEach es X.env)).any (·.1) = false := by rfl) :
    DE X W ω (.Call (.Name x p) (e :: es) [] pos) .fz (appM gg ms) := de_callB hc hg hm hv ha hn hdb he hpl
theorem dty {T : String} {gg : List D → Option D} (hc : CallD X (.type T) gg) (hm : X.mg x = none) (hv : bootBuiltins x = some (.type T)) (ha : DA X W ω (e :: es) ms) (hg : Gl X x := by rfl)
    (hn : x ≠ "__name__" := by decide) (hdb : (x == ("__debug__" : Str)) = false := by decide) (he : starEach (e :: es) X.env = (false, eval e X.env) :: starEach es X.env := by rfl) (hpl : (backTo pos (starEach es X.env)).any (·.1) = false := by rfl) :
    DE X W ω (.Call (.Name x p) (e :: es) [] pos) .fz (appM gg ms) := de_callTy hc hg hm hv ha hn hdb he hpl
end
end DL
namespace DL
open PySem PySem.Spec PyProof.Rows L2
section
variable {X : Cx} {W : WX} {ω : List Sh}
theorem de_bm {o e : Expr} {es : List Expr} {T id : String} {name : Str} {apos cpos : Pos} {g : D → List D → Option D} {m : M D} {ms : M (List D)} (pa : PlainAttrs T) (slot : Slot T name id) (hty : typeOf (.builtin id) = pure (.type "method_descriptor")) (hm : MetD X T id g) (ho : DE X W ω o .fz m) (ha : DA X W ω (e :: es) ms)
    (hbase : attributeBase o name X.env (eval o X.env) = eval o X.env := by rfl)
    (hfew : ((backTo cpos (starEach (e :: es) X.env)).all (fun x => !x.1) && (backToKw cpos (keywordEach [] X.env)).all (fun x => x.1.isSome)
      && decide ((e :: es).length + ([] : List Keyword).length + (if ([] : List Keyword).isEmpty then 0 else 1) < 30)) = true := by rfl)
    (hline : (apos.endLine == cpos.line) = true := by rfl) (hs : starEach (e :: es) X.env = (false, eval e X.env) :: starEach es X.env := by rfl) (hplain : (backTo cpos (starEach es X.env)).any (·.1) = false := by rfl) :
    DE X W ω (.Call (.Attribute o name apos) (e :: es) [] cpos) .fz (metM' T g m ms) :=
  de_met hm ho ha (pe_bm pa slot hty (metR hm) ho ha hbase hfew hline hs hplain)
end
theorem hu65 {A : Around} {k : Nat} (hr : Room k A) : A.units + 65 < cLine := by have := hr.un; omega
theorem hu80 {A : Around} {k : Nat} (hr : Room k A) : A.units + 80 < cLine := by have := hr.un; omega
end DL
namespace DL
open PySem PySem.Spec PyProof.Rows
theorem bt_abs : bootBuiltins "abs" = some (.builtin "abs") := by rfl
theorem bt_len : bootBuiltins "len" = some (.builtin "len") := by rfl
theorem bt_all : bootBuiltins "all" = some (.builtin "all") := by rfl
theorem bt_any : bootBuiltins "any" = some (.builtin "any") := by rfl
theorem bt_repr : bootBuiltins "repr" = some (.builtin "repr") := by rfl
theorem bt_int : bootBuiltins "int" = some (.type "int") := by rfl
theorem bt_bool : bootBuiltins "bool" = some (.type "bool") := by rfl
theorem bt_str : bootBuiltins "str" = some (.type "str") := by rfl
theorem bt_list : bootBuiltins "list" = some (.type "list") := by rfl
theorem bt_tuple : bootBuiltins "tuple" = some (.type "tuple") := by rfl
theorem bt_dict : bootBuiltins "dict" = some (.type "dict") := by rfl
end DL
namespace DL
open PySem PySem.Spec PyProof.Rows L2
theorem kwN {K : Fg} {x qual : Str} {params : Arguments} {body : List Stmt} {scope : Scope} {kws : List (Str × V)} {f : Addr} {fd : FuncData} {ps ks : List Str} {ix : List Nat} (F : FunD K x qual params body scope [] kws f fd)
    (h : ∀ (kV doc pm : Value) (an : Option Addr) (cdv ct : Value) (ws : List Value), ws.length = ks.length → bindArgs (PySem.W.fnOf x qual params body scope .none kV doc pm an cdv ct) ⟨[], ks.zip ws⟩ = pure (ps.zip (byIx ix ws))) : KwB K fd ps ks ix := by
  obtain ⟨oc, od, dV, kV, doc, pm, an, cdv, ct, osl, rfl, lk, hcd, hD, hK⟩ := F.ex
  rcases hD with ⟨_, rfl⟩ | ⟨e, _⟩
  · exact fun s ws _ hl => .of_eq (h kV doc pm an cdv ct ws hl)
  · exact absurd rfl e
end DL
/-! DL: lists that are made and owned; several names at once; op= more. -/
namespace DL
open PySem PySem.Spec PyProof.Rows L2
/-- a new list is owned -/
theorem Sim.newO {K : Fg} {ω : List Sh} {F G H : Hp} {ρ : Rho} {σ : L2.St} {p : Addr} {xs : List V} {ds : List D} (S : Sim K ω F G H ρ σ) (np : H p = none) (r : RDs K F xs ds) : Sim K (.lst .fz :: ω) F G (upd H p (.lst xs)) (some (.lst ds) :: ρ) (some (.ref p) :: σ) := by
  obtain ⟨⟨fp, o, n⟩, a, b, dj⟩ := S
  have fD : F p = none := a.none np
  have gD : G p = none := b.none np
  refine ⟨⟨[p] ++ fp, .bd (.lst upd_same (Owns.of_rds r) (fun z => by cases z)) (o.mono (Le.refl _) fun x m u e => by rw [upd_ne (ne_of_none e np)]; exact e) fun x m z => ?_, fun x m => ?_⟩, fun x u e => ?_, fun x u e => ?_, dj⟩
  · have : x = p := by simpa using m
    subst this
    obtain ⟨u, e⟩ := o.live x z
    rw [np] at e; cases e
  · rcases List.mem_append.mp m with m | m
    · have : x = p := by simpa using m
      subst this; exact ⟨fD, gD⟩
    · exact n x m
  · rw [upd_ne (ne_of_none e fD)]; exact a x u e
  · exact b.trans (Le.upd np) x u e
section
variable {X : Cx} {W : WX} {C : Sx} {ω : List Sh} {pos : Pos} {a b c e : Expr} {m m1 m2 m3 : M D} {sh : Sh}
/-- an answer of two frozen data, with the names' data at hand -/
theorem tbinS {g : D → D → Option D} {σ : L2.St} {H : Hp} {Q : VK} {sh : Sh} (h : tM X.K X.mg W ω sh (bin g m1 m2) σ H Q) :
    tM X.K X.mg W ω .fz m1 σ H fun x H1 => tM X.K X.mg W ω .fz m2 σ H1 fun y H2 => ∃ F G ρ d1 d2 r, g d1 d2 = some r ∧ Sim X.K ω F G H2 ρ σ ∧ RD X.K F x d1 ∧ RD X.K F y d2 ∧ ∀ z F' H', Le F F' → Sim X.K (sh :: ω) F' G H' (some r :: ρ) (some z :: σ) → Q z H' := by
  obtain ⟨F, q⟩ := tM_bind h
  refine ⟨F, tMF_mono q fun x H1 ⟨d1, F1, r1, q1⟩ => ?_⟩
  obtain ⟨G, ρ, S, q1⟩ := q1
  refine ⟨F1, G, ρ, S, Res.sat_mono (Res.sat_bind q1) (fun d2 ρ1 p v F2 H2 l S2 => ?_) fun _ _ z => z⟩
  obtain ⟨r2, S3⟩ := S2.top
  cases eg : g d1 d2 with
  | none => rw [eg] at p; exact p.elim
  | some r =>
    rw [eg] at p
    exact ⟨F2, G, ρ1, d1, d2, r, eg, S3, r1.mono l, r2, fun z F' H' l' S' => p z F' H' (l.trans l') S'⟩
def gCat : D → D → Option D
  | .lst xs, .lst ys => if xs.length + ys.length ≤ sizeLine then some (.lst (xs ++ ys)) else none
  | _, _ => none
theorem de_catO (ha : DE X W ω a .fz m1) (hb : DE X W ω b .fz m2) : DE X W ω (.BinOp a .Add b pos) (.lst .fz) (bin gCat m1 m2) := by
  refine ⟨fun pins s σ H Q I h => ?_⟩
  refine wpAny_BinOp (binT ha hb I (tbinS h) fun v u s2 x y H2 I2 rx ry q => ?_)
  obtain ⟨F, G, ρ, d1, d2, r, e, S, r1, r2, k⟩ := q
  unfold gCat at e
  split at e
  · split at e
    · rename_i hl
      cases e
      cases r1 with
      | lst h1 s1 =>
        cases r2 with
        | lst h2 s2' =>
          exact op_cat pins s2 σ H2 _ _ v u Q I2 rx ry ⟨_, _, _, _, rfl, rfl, S.fH _ _ h1, S.fH _ _ h2, by rw [s1.length, s2'.length]; exact hl, fun p np => k _ F _ (Le.refl _) (S.newO np (s1.append s2'))⟩
    · cases e
  · cases e
def gRep : D → D → Option D
  | .lst xs, .int k => if -(2 ^ 63) ≤ k ∧ k < 2 ^ 63 ∧ xs.length * k.toNat ≤ sizeLine then some (.lst (List.replicate k.toNat xs).flatten) else none
  | _, _ => none
theorem de_repO (ha : DE X W ω a .fz m1) (hb : DE X W ω b .fz m2) : DE X W ω (.BinOp a .Mult b pos) (.lst .fz) (bin gRep m1 m2) := by
  refine ⟨fun pins s σ H Q I h => ?_⟩
  refine wpAny_BinOp (binT ha hb I (tbinS h) fun v u s2 x y H2 I2 rx ry q => ?_)
  obtain ⟨F, G, ρ, d1, d2, r, e, S, r1, r2, k⟩ := q
  unfold gRep at e
  split at e
  · split at e
    · rename_i hl
      cases e
      cases r2
      cases r1 with
      | lst h1 s1 =>
        exact op_rep pins s2 σ H2 _ _ v u Q I2 rx ry ⟨_, _, _, rfl, rfl, S.fH _ _ h1, hl.1, hl.2.1, by rw [s1.length]; exact hl.2.2, fun p np => k _ F _ (Le.refl _) (S.newO np (s1.rep _))⟩
    · cases e
  · cases e
/-- list(x) -/
theorem de_listO {es : List Expr} {ms : M (List D)} {x : Str} {p : Pos} (hm : X.mg x = none) (hv : bootBuiltins x = some (.type "list")) (ha : DA X W ω (e :: es) ms) (hg : Gl X x := by rfl)
    (hn : x ≠ "__name__" := by decide) (hdb : (x == ("__debug__" : Str)) = false := by decide) (he : starEach (e :: es) X.env = (false, eval e X.env) :: starEach es X.env := by rfl) (hpl : (backTo pos (starEach es X.env)).any (·.1) = false := by rfl) :
    DE X W ω (.Call (.Name x p) (e :: es) [] pos) (.lst .fz) (appM gList ms) := by
  refine ⟨fun pins s σ H Q I h => ?_⟩
  refine wpAny_Call_Name_kw (ld_blt I hg hm hv ?_ hn hdb)
  obtain ⟨F, G, ρ, S, h⟩ := h
  have want : tA X.K X.mg W ω ms σ H fun xs H1 => ∃ p ys, xs = [.ref p] ∧ (SqL X.K H1 p ys ∨ SqT X.K H1 p ys) ∧ ∀ l, H1 l = none → Q (.ref l) (upd H1 l (.lst ys)) := by
    refine ⟨F, G, ρ, S, Res.sat_mono (Res.sat_bind h) (fun ds ρ1 q vs F1 H1 l S1 rs => ?_) fun _ _ z => z⟩
    unfold gList at q
    split at q
    · cases rs with | cons r rs => cases rs; cases r with | lst h s => exact ⟨_, _, rfl, .inl (SqL.of (S1.fH _ _ h)), fun p np => q _ F1 _ l (S1.newO np s)⟩
    · cases rs with | cons r rs => cases rs; cases r with | tup h s => exact ⟨_, _, rfl, .inr (SqT.of (S1.fH _ _ h)), fun p np => q _ F1 _ l (S1.newO np s)⟩
    · cases rs with | cons r rs => cases rs; cases r with | ktup h s => exact ⟨_, _, rfl, .inr (SqT.mono S1.fH h), fun p np => q _ F1 _ l (S1.newO np s)⟩
    · cases rs with | cons r rs => cases rs; cases r with | scr h s => exact ⟨_, _, rfl, .inl (SqL.mono S1.fH h), fun p np => q _ F1 _ l (S1.newO np s)⟩
    · exact q.elim
  exact PyProof.Rows.callWith_type1 (thn (ha.run pos pins s σ H _ I want) fun us s1 ⟨vs, H1, I1, r1, q1⟩ => call_list_of pins s1 σ H1 vs us Q I1 r1 q1) he hpl
/-- xs[lo:hi], a new list -/
def slcLD (d : D) (lo hi : Option Int) : Option D := match d with
  | .lst xs => some (.lst (cutD xs lo hi))
  | .scr xs => some (.lst (cutD xs lo hi))
  | _ => none
def slcLM (m : M D) (lo hi : MO) : M D := bindM m fun d => bindM lo fun l => bindM hi fun h => liftO (slcLD d l h)
theorem de_sliceO {p2 : Pos} {lo hi : Option Expr} {ml mh : MO} (ha : DE X W ω a .fz m) (hl : DO X W ω lo ml) (hh : DO X W ω hi mh) : DE X W ω (.Subscript a (.Slice lo hi none p2) pos) (.lst .fz) (slcLM m ml mh) :=
  PE.imp (pe_slice sl_list ha hl hh) fun σ H Q ⟨F, G, ρ, S, q⟩ => by
    refine ⟨F, G, ρ, S, Res.sat_mono (Res.sat_bind q) (fun d ρ1 q1 v F1 H1 l1 S1 => ?_) fun _ _ z => z⟩
    obtain ⟨r, S2⟩ := S1.top
    refine ⟨F1, G, ρ1, S2, Res.sat_mono (Res.sat_bind q1) (fun o ρ2 q2 F2 H2 l2 S3 => ?_) fun _ _ z => z.le l1⟩
    refine ⟨F2, G, ρ2, S3, Res.sat_mono (Res.sat_bind q2) (fun o2 ρ3 q3 F3 H3 l3 S4 => ?_) fun _ _ z => z.le (l1.trans l2)⟩
    have r3 := r.mono (l2.trans l3)
    have l13 := l1.trans (l2.trans l3)
    unfold slcLD at q3
    cases r3 with
    | lst h s => exact ⟨_, _, rfl, SqL.of (S4.fH _ _ h), fun p np => q3 _ F3 _ l13 (S4.newO np (s.cut o o2))⟩
    | scr h s => exact ⟨_, _, rfl, SqL.mono S4.fH h, fun p np => q3 _ F3 _ l13 (S4.newO np (s.cut o o2))⟩
    | _ => exact q3.elim
/-- a, b = x, y of any shapes -/
theorem ds_parO2 {i j : Nat} {x y : Str} {s1 s2 : Sh} {px py pt : Pos} {kt k2 pt2} (wk : Wk ω C.ωe) (hc : X.calm = true) (hN : X.N.Nodup) (ha : DE X C.W ω a s1 m1) (hb : DE X C.W ω b s2 m2) (ni : X.N[i]? = some x := by rfl) (nj : X.N[j]? = some y := by rfl) (hij : i ≠ j := by decide)
    (hx : X.env.scope.names.lookup x = some .local := by rfl) (hy : X.env.scope.names.lookup y = some .local := by rfl)
    (e1 : starEach [a, b] X.env = (false, eval a X.env) :: starEach [b] X.env := by rfl) (e2 : starEach [b] X.env = (false, eval b X.env) :: starEach [] X.env := by rfl)
    (hw : swappedStores [.Tuple [.Name x px, .Name y py] kt pt] (.Tuple [a, b] k2 pt2) X.env = pure (some [x, y]) := by rfl)
    (hs : swapsWithSole [.Tuple [.Name x px, .Name y py] kt pt] (.Tuple [a, b] k2 pt2) pos.line X.env = pure false := by rfl) :
    DS X C ω (.Assign [.Tuple [.Name x px, .Name y py] kt pt] (.Tuple [a, b] k2 pt2) pos) ((ω.set i s1).set j s2) (parM i j (consM m1 (consM m2 nilM))) :=
  PS.imp (ps_par hc hN ni nj hij hx hy (pa_cons ha (pa_cons hb pa_nil e2) e1) hw hs) fun D σ H ⟨F, G, ρ, S, q⟩ => by
    have q := Res.sat_bind (Res.sat_bind q)
    refine ⟨F, G, ρ, S, Res.sat_mono q (fun d1 ρ1 p v F1 H1 l1 S1 => ?_) fun _ _ z => z.zx wk⟩
    obtain ⟨G', S2, back⟩ := S1.hide
    have p := Res.sat_bind (Res.sat_bind p)
    refine ⟨F1, G', ρ1, S2, Res.sat_mono p (fun d2 ρ2 p2 u F2 H2 l2 S3 => ?_) fun e ρ' z => ?_⟩
    · have S4 := back l2 S3
      have p2 := Res.sat_bind p2
      refine ⟨_, _, rfl, p2 _ F2 H2 (l1.trans l2) ?_⟩
      exact (S4.set (i + 1)).set j
    · refine fun F' H' cls dx l' S' x' => ?_
      have z' := z.zx (ω := ω) (σ := σ) wk
      exact z' F' H' cls dx (l1.trans l') (back l' S').pop x'
/-- a, b, c = x, y, z of any shapes -/
theorem ds_parO3 {i j l : Nat} {x y z : Str} {s1 s2 s3 : Sh} {px py pz pt : Pos} {kt k2 pt2} (wk : Wk ω C.ωe) (hc : X.calm = true) (hN : X.N.Nodup) (ha : DE X C.W ω a s1 m1) (hb : DE X C.W ω b s2 m2) (hcc : DE X C.W ω c s3 m3) (ni : X.N[i]? = some x := by rfl) (nj : X.N[j]? = some y := by rfl) (nl : X.N[l]? = some z := by rfl) (hij : i ≠ j := by decide) (hil : i ≠ l := by decide) (hjl : j ≠ l := by decide)
    (hx : X.env.scope.names.lookup x = some .local := by rfl) (hy : X.env.scope.names.lookup y = some .local := by rfl) (hz : X.env.scope.names.lookup z = some .local := by rfl)
    (e1 : starEach [a, b, c] X.env = (false, eval a X.env) :: starEach [b, c] X.env := by rfl) (e2 : starEach [b, c] X.env = (false, eval b X.env) :: starEach [c] X.env := by rfl) (e3 : starEach [c] X.env = (false, eval c X.env) :: starEach [] X.env := by rfl)
    (hw : swappedStores [.Tuple [.Name x px, .Name y py, .Name z pz] kt pt] (.Tuple [a, b, c] k2 pt2) X.env = pure (some [x, y, z]) := by rfl)
    (hs : swapsWithSole [.Tuple [.Name x px, .Name y py, .Name z pz] kt pt] (.Tuple [a, b, c] k2 pt2) pos.line X.env = pure false := by rfl) :
    DS X C ω (.Assign [.Tuple [.Name x px, .Name y py, .Name z pz] kt pt] (.Tuple [a, b, c] k2 pt2) pos) (((ω.set i s1).set j s2).set l s3) (parM3 i j l (consM m1 (consM m2 (consM m3 nilM)))) :=
  PS.imp (ps_par3 hc hN ni nj nl hij hil hjl hx hy hz (pa_cons ha (pa_cons hb (pa_cons hcc pa_nil e3) e2) e1) hw hs) fun D σ H ⟨F, G, ρ, S, q⟩ => by
    have q := Res.sat_bind (Res.sat_bind q)
    refine ⟨F, G, ρ, S, Res.sat_mono q (fun d1 ρ1 p v F1 H1 l1 S1 => ?_) fun _ _ z => z.zx wk⟩
    obtain ⟨G', S2, back⟩ := S1.hide
    have p := Res.sat_bind (Res.sat_bind p)
    refine ⟨F1, G', ρ1, S2, Res.sat_mono p (fun d2 ρ2 p2 u F2 H2 l2 S3 => ?_) fun e ρ' z => ?_⟩
    · obtain ⟨G2, S4, back2⟩ := S3.hide
      have p2 := Res.sat_bind (Res.sat_bind p2)
      refine ⟨F2, G2, ρ2, S4, Res.sat_mono p2 (fun d3 ρ3 p3 w F3 H3 l3 S5 => ?_) fun e ρ' z => ?_⟩
      · have S6 := back (l2.trans l3) (back2 l3 S5)
        have p3 := Res.sat_bind p3
        refine ⟨_, _, _, rfl, p3 _ F3 H3 (l1.trans (l2.trans l3)) ?_⟩
        exact ((S6.set (i + 2)).set (j + 1)).set l
      · refine fun F' H' cls dx l' S' x' => ?_
        have z' := z.zx (ω := ω) (σ := σ) wk
        exact z' F' H' cls dx (l1.trans (l2.trans l')) (back (l2.trans l') (back2 l' S')).pop.pop x'
    · refine fun F' H' cls dx l' S' x' => ?_
      have z' := z.zx (ω := ω) (σ := σ) wk
      exact z' F' H' cls dx (l1.trans l') (back l' S').pop x'
/-! ### op= more -/
def gPosDiv : D → D → Option D
  | .int i, .int j => if 0 < j ∧ j.natAbs < 18446744073709551616 then some (.int (i / j)) else none
  | _, _ => none
theorem od_idiv : OpD X (inplaceOp .FloorDiv) gPosDiv := opd_int iop_fdivW fun d1 d2 r e => by
  unfold gPosDiv at e
  split at e
  · split at e
    · rename_i h; cases e; exact ⟨_, _, rfl, rfl, wide_div (b := 64) h.1 (by omega) (by decide) (by decide), rfl⟩
    · cases e
  · cases e
def gPosMod : D → D → Option D
  | .int i, .int j => if 0 < j then some (.int (i % j)) else none
  | _, _ => none
theorem od_imod : OpD X (inplaceOp .Mod) gPosMod := opd_int iop_mod fun d1 d2 r e => by
  unfold gPosMod at e
  split at e
  · split at e
    · rename_i h; cases e; exact ⟨_, _, rfl, rfl, h, rfl⟩
    · cases e
  · cases e
def gMulI : D → D → Option D
  | .int i, .int j => if mulOk i j then some (.int (i * j)) else none
  | _, _ => none
theorem od_imul : OpD X (inplaceOp .Mult) gMulI := opd_int iop_mul fun d1 d2 r e => by
  unfold gMulI at e
  split at e
  · split at e
    · rename_i h
      cases e
      refine ⟨_, _, rfl, rfl, ?_, rfl⟩
      unfold mulOk at h
      rw [Bool.or_eq_true] at h
      rcases h with h | h
      · exact .inl (lt64 (of_decide_eq_true h))
      · exact .inr (lt64 (of_decide_eq_true h))
    · cases e
  · cases e
end
end DL
namespace DL
section
variable {m m1 m2 m3 : M D} {ms : M (List D)} {t k : M Bool}
theorem pur_nil : Pur nilM := pur_pure
theorem pur_bin {g : D → D → Option D} (h : Pur m1) (h2 : Pur m2) : Pur (bin g m1 m2) := pur_bind h fun _ => pur_bind h2 fun _ => pur_lift
theorem pur_un {g : D → Option D} (h : Pur m) : Pur (un1 g m) := pur_bind h fun _ => pur_lift
theorem pur_app {g : List D → Option D} (h : Pur ms) : Pur (appM g ms) := pur_bind h fun _ => pur_lift
theorem pur_cons (h : Pur m) (h2 : Pur ms) : Pur (consM m ms) := pur_bind h fun _ => pur_bind h2 fun _ => pur_pure
theorem pur_tru (h : Pur m) : Pur (truM m) := pur_bind h fun _ => pur_lift
theorem pur_notT (h : Pur t) : Pur (notT t) := pur_bind h fun _ => pur_pure
theorem pur_notM (h : Pur m) : Pur (notM m) := pur_bind h fun _ => pur_lift
theorem pur_andT (h : Pur t) (h2 : Pur k) : Pur (andT t k) := pur_bind h fun _ => pur_ite h2 pur_pure
theorem pur_orT (h : Pur t) (h2 : Pur k) : Pur (orT t k) := pur_bind h fun _ => pur_ite pur_pure h2
theorem pur_chk {i : Nat} : Pur (chkM i) := fun ρ => by
  unfold chkM
  generalize ρ[i]? = z
  cases z with
  | none => trivial
  | some z =>
    cases z with
    | none => trivial
    | some d => cases d <;> first | trivial | rfl
theorem pur_atO {i : Nat} {d : D} : Pur (atO i d) := fun ρ => by
  unfold atO
  generalize ρ[i]? = z
  cases z with
  | none => trivial
  | some z =>
    cases z with
    | none => trivial
    | some x =>
      cases x with
      | lst xs =>
        cases d with
        | int j =>
          dsimp only
          cases L2.atI xs j with
          | none => trivial
          | some y => rfl
        | _ => trivial
      | _ => trivial
theorem pur_ixo {i : Nat} (h : Pur m) : Pur (ixoM i m) := pur_bind pur_chk fun _ => pur_bind h fun _ => pur_atO
theorem pur_noO : Pur noO := pur_pure
theorem pur_someO (h : Pur m) : Pur (someO m) := pur_bind h fun _ => pur_lift
theorem pur_slc {lo hi : MO} (h : Pur m) (h2 : Pur lo) (h3 : Pur hi) : Pur (slcM m lo hi) := pur_bind h fun _ => pur_bind h2 fun _ => pur_bind h3 fun _ => pur_lift
theorem pur_if {α : Type} {x y : M α} (h : Pur t) (h2 : Pur x) (h3 : Pur y) : Pur (ifM t x y) := pur_bind h fun _ => pur_ite h2 h3
end
end DL
/-! DL: instances: attributes, methods, making. -/
namespace DL
open PySem PySem.Spec PyProof.Rows L2
theorem lookup_ds {K : Fg} {F : Hp} {f : Str} : ∀ {fs : List (Str × V)} {ds : List (Str × D)} {d : D}, fs.map (·.1) = ds.map (·.1) → RDs K F (fs.map (·.2)) (ds.map (·.2)) → ds.lookup f = some d → ∃ v, fs.lookup f = some v ∧ RD K F v d
  | [], [], _, _, _, h => by cases h
  | [], _ :: _, _, e, _, _ => by cases e
  | _ :: _, [], _, e, _, _ => by cases e
  | (g, v) :: fs, (g', d') :: ds, d, e, r, h => by
    simp only [List.map_cons, List.cons.injEq] at e
    obtain ⟨rfl, e⟩ := e
    cases r with
    | cons r rs =>
      rw [List.lookup_cons] at h
      rw [List.lookup_cons]
      by_cases q : (f == g) = true
      · rw [q] at h ⊢; cases h; exact ⟨v, rfl, r⟩
      · rw [Bool.eq_false_iff.mpr q] at h ⊢
        exact lookup_ds e rs h
theorem lookup_none {f : Str} : ∀ {fs : List (Str × V)} {ds : List (Str × D)}, fs.map (·.1) = ds.map (·.1) → ds.lookup f = none → fs.lookup f = none
  | [], [], _, _ => rfl
  | [], _ :: _, e, _ => by cases e
  | _ :: _, [], e, _ => by cases e
  | (g, v) :: fs, (g', d') :: ds, e, h => by
    simp only [List.map_cons, List.cons.injEq] at e
    obtain ⟨rfl, e⟩ := e
    rw [List.lookup_cons] at h ⊢
    by_cases q : (f == g) = true
    · rw [q] at h; cases h
    · rw [Bool.eq_false_iff.mpr q] at h ⊢
      exact lookup_none e h
def putD (f : Str) (d : D) : List (Str × D) → List (Str × D)
  | [] => [(f, d)]
  | (g, x) :: r => if g = f then (g, d) :: r else (g, x) :: putD f d r
theorem put_ds {K : Fg} {F : Hp} {f : Str} {v : V} {d : D} (r0 : RD K F v d) : ∀ {fs : List (Str × V)} {ds : List (Str × D)}, fs.map (·.1) = ds.map (·.1) → RDs K F (fs.map (·.2)) (ds.map (·.2)) → (putF f v fs).map (·.1) = (putD f d ds).map (·.1) ∧ RDs K F ((putF f v fs).map (·.2)) ((putD f d ds).map (·.2))
  | [], [], _, _ => ⟨rfl, .cons r0 .nil⟩
  | [], _ :: _, e, _ => by cases e
  | _ :: _, [], e, _ => by cases e
  | (g, x) :: fs, (g', y) :: ds, e, r => by
    simp only [List.map_cons, List.cons.injEq] at e
    obtain ⟨rfl, e⟩ := e
    cases r with
    | cons r rs =>
      obtain ⟨a, b⟩ := put_ds r0 (f := f) e rs
      unfold putF putD
      by_cases q : g = f
      · rw [if_pos q, if_pos q]; exact ⟨by simp [e], .cons r0 rs⟩
      · rw [if_neg q, if_neg q]; exact ⟨by simp [a], .cons r b⟩
theorem OwnF.of_rds {K : Fg} {F H : Hp} : ∀ {fs : List (Str × V)} {ds : List (Str × D)}, fs.map (·.1) = ds.map (·.1) → RDs K F (fs.map (·.2)) (ds.map (·.2)) → OwnF K F H [] fs ds []
  | [], [], _, _ => .nil
  | [], _ :: _, e, _ => by cases e
  | _ :: _, [], e, _ => by cases e
  | (g, x) :: fs, (g', y) :: ds, e, r => by
    simp only [List.map_cons, List.cons.injEq] at e
    obtain ⟨rfl, e⟩ := e
    cases r with
    | cons r rs => exact OwnF.cons (fp := []) (fp2 := []) (.fz r) (OwnF.of_rds e rs) (fun _ m => by cases m)
theorem OwnF.rds {K : Fg} {F H : Hp} : ∀ {fs : List (Str × V)} {ds : List (Str × D)} {fp : List Addr}, OwnF K F H [] fs ds fp → fs.map (·.1) = ds.map (·.1) ∧ RDs K F (fs.map (·.2)) (ds.map (·.2)) ∧ fp = []
  | _, _, _, .nil => ⟨rfl, .nil, rfl⟩
  | _, _, _, .cons a b n => by
    obtain ⟨e, r, q⟩ := OwnF.rds b
    subst q
    have a : Own _ _ _ .fz _ _ _ := a
    cases a with
    | fz r0 => exact ⟨by simp [e], .cons r0 r, rfl⟩
section
variable {X : Cx} {W : WX} {C : Sx} {ω : List Sh} {pos : Pos} {a b c e : Expr} {m m1 m2 m3 : M D} {sh : Sh}
/-! ### attributes -/
def gFld (cs : List Str) (f : Str) : D → Option D
  | .ins C fs => if cs.contains C = true then fs.lookup f else none
  | _ => none
/-- the classes cs have f as their instances' own -/
abbrev FldOk (K : Fg) (cs : List Str) (f : Str) : Prop := ∀ C ∈ cs, Cls K (He.ga K C) ∧ NoAttr K (He.ga K C) f
theorem de_fld {cs : List Str} {f : Str} (hc : FldOk X.K cs f) (ha : DE X W ω a .fz m) (hb : attributeBase a f X.env (eval a X.env) = eval a X.env := by rfl) : DE X W ω (.Attribute a f pos) .fz (un1 (gFld cs f) m) :=
  PE.imp (pe_fld ha hb) fun σ H Q q => by
    obtain ⟨F, q⟩ := tun q
    refine ⟨F, tMF_mono q fun x H1 ⟨F1, d, r, e, l, rd, k⟩ => ?_⟩
    unfold gFld at e
    cases rd with
    | ins h h2 e1 rs =>
      have e : (if cs.contains _ = true then _ else none) = some r := e
      split at e
      · rename_i hm
        obtain ⟨hk1, hk2⟩ := hc _ (List.contains_iff_mem.mp hm)
        obtain ⟨v, ev, rv⟩ := lookup_ds e1 rs e
        exact ⟨_, _, _, _, v, rfl, l _ _ h, hk1, hk2, ev, k v F1 H1 (Gr.refl l) rv⟩
      · cases e
    | _ => cases e
/-! ### an instance that a name owns -/
theorem Sim.insO {K : Fg} {ω : List Sh} {F G H : Hp} {ρ : Rho} {σ : L2.St} (S : Sim K ω F G H ρ σ) {i : Nat} {s : Sh} {cn : Str} {ds : List (Str × D)} (h1 : ω[i]? = some s) (hs : coreSh s = .ins []) (h2 : ρ[i]? = some (some (.ins cn ds))) :
    ∃ a dx fs, σ[i]? = some (some (.ref a)) ∧ H a = some (.ins (He.ga K cn) dx fs) ∧ fs.map (·.1) = ds.map (·.1) ∧ RDs K F (fs.map (·.2)) (ds.map (·.2)) ∧
      ∀ F' H' fs' ds', Gr F H F' H' → fs'.map (·.1) = ds'.map (·.1) → RDs K F' (fs'.map (·.2)) (ds'.map (·.2)) → Sim K ω F' G (upd H' a (.ins (He.ga K cn) dx fs')) (ρ.set i (some (.ins cn ds'))) σ := by
  obtain ⟨⟨fp, o, n⟩, l, g, dj⟩ := S
  obtain ⟨v, fi, fo, e, w, nn, m, k⟩ := o.split h1 h2
  have wc := w.core
  rw [hs] at wc
  cases wc with
  | @ins _ a dx _ fs _ fq ha hdx r na nd =>
    obtain ⟨e1, rs, e0⟩ := r.rds
    subst e0
    refine ⟨a, dx, fs, e, ha, e1, rs, fun F' H' fs' ds' gr e' rs' => ?_⟩
    have inA : a ∈ fp := (m a).mpr (.inl (List.mem_cons_self))
    have inD : dx ∈ fp := (m dx).mpr (.inl (List.mem_cons_of_mem _ (List.mem_cons_self)))
    have ne : dx ≠ a := fun z => by
      subst z
      rw [ha] at hdx; cases hdx
    have fa : F a = none := (n a inA).1
    have ga : G a = none := (n a inA).2
    have fa' : F' a = none := gr.new a fa (by rw [ha]; exact fun z => nomatch z) (fun xs z => by rw [ha] at z; cases z)
    obtain ⟨fp', o', m'⟩ := k F' (upd H' a (.ins (He.ga K cn) dx fs')) (.ins cn ds') (a :: dx :: []) gr.lf (fun b hb u q => by
      rw [upd_ne (fun z => nn a (List.mem_cons_self) (by rw [← z]; exact hb))]; exact gr.lh b u q)
      (w.uncore (by rw [hs]; exact .ins upd_same (by rw [upd_ne ne]; exact gr.lh _ _ hdx) (OwnF.of_rds e' rs') (fun z => by cases z) (fun z => by cases z))) (fun b hb => nn b hb)
    refine ⟨⟨fp', o', fun b hb => ?_⟩, fun b u q => ?_, fun b u q => ?_, ⟨fun b q => ?_, dj.2⟩⟩
    · have hb' : b ∈ fp := (m b).mpr ((m' b).mp hb)
      have q := n b hb'
      refine ⟨gr.new b q.1 (fun y => ?_) (o.nt b hb'), q.2⟩
      obtain ⟨u, hu⟩ := o.live b hb'
      rw [hu] at y; cases y
    · rw [upd_ne (ne_of_none q fa')]; exact gr.fh b u q
    · exact (g.trans gr.lh).upd ga (gr.lh _ _ ha) trivial b u q
    · exact gr.new b (dj.1 b q) (fun y => g.live q y) (dj.nt g q)
/-- name.f of an owned instance -/
def fldoM (i : Nat) (cs : List Str) (f : Str) : M D := fun ρ => match ρ[i]? with
  | some (some (.ins C fs)) => if cs.contains C = true then (match fs.lookup f with | some d => .ok d ρ | none => .no) else .no
  | _ => .no
theorem de_fldo {i : Nat} {x : Str} {p' : Pos} {cs : List Str} {f : Str} {s : Sh} (hc : FldOk X.K cs f) (h1 : ω[i]? = some s) (hs : coreSh s = .ins []) (hv : PE X (.Name x p') (tVar i)) (hb : attributeBase (.Name x p') f X.env (eval (.Name x p') X.env) = eval (.Name x p') X.env := by rfl) : DE X W ω (.Attribute (.Name x p') f pos) .fz (fldoM i cs f) :=
  PE.imp (pe_fld hv hb) fun σ H Q ⟨F, G, ρ, S, q⟩ => by
    unfold fldoM at q
    split at q
    · rename_i cn ds e0
      split at q
      · rename_i hm
        obtain ⟨hk1, hk2⟩ := hc _ (List.contains_iff_mem.mp hm)
        split at q
        · rename_i d el
          obtain ⟨a, dx, fs, ea, ha, e1, rs, _⟩ := S.insO h1 hs e0
          obtain ⟨v, ev, rv⟩ := lookup_ds e1 rs el
          exact ⟨_, ea, _, _, _, _, v, rfl, ha, hk1, hk2, ev, q v F H (Le.refl _) (S.push rv)⟩
        · exact q.elim
      · exact q.elim
    · exact q.elim
/-- name.f = e, an owned instance -/
def fldSetM (i : Nat) (cs : List Str) (f : Str) (m : M D) : M Fl := bindM m fun d ρ => match ρ[i]? with
  | some (some (.ins C fs)) => if cs.contains C = true ∧ fs.length < 1000 then .ok .nx (ρ.set i (some (.ins C (putD f d fs)))) else .no
  | _ => .no
theorem ds_fld {i : Nat} {x : Str} {p' p2 : Pos} {cs : List Str} {f : Str} {s : Sh} (wk : Wk ω C.ωe) (hc : FldOk X.K cs f) (h1 : ω[i]? = some s) (hs : coreSh s = .ins []) (hv : PE X (.Name x p') (tVar i)) (he : DE X C.W ω e .fz m)
    (hsw : swapsWith e (some (.Attribute (.Name x p') f p2)) pos.line X.env = pure false := by rfl) : DS X C ω (.Assign [.Attribute (.Name x p') f p2] e pos) ω (fldSetM i cs f m) :=
  PS.imp (ps_fld hv he hsw) fun D σ H q => by
    obtain ⟨F, q⟩ := tS_bind (sh := .fz) wk q
    refine ⟨F, tMF_mono q fun v H1 ⟨d, F1, G, ρ1, S, z⟩ => ?_⟩
    obtain ⟨r, S1⟩ := S.top
    split at z
    · rename_i cn ds e0
      split at z
      · rename_i hm
        obtain ⟨hk1, hk2⟩ := hc _ (List.contains_iff_mem.mp hm.1)
        obtain ⟨a, dx, fs, ea, ha, e1, rs, up⟩ := S1.insO h1 hs e0
        have hl : fs.length = ds.length := by
          have := congrArg List.length e1
          simpa using this
        obtain ⟨e2, rs2⟩ := put_ds r (f := f) e1 rs
        exact ⟨_, ea, a, _, dx, fs, rfl, ha, hk1, hk2, by rw [hl]; exact hm.2, z σ F1 _ (Le.refl _) (up F1 H1 _ _ (Gr.refl S1.fH) e2 rs2)⟩
      · exact z.elim
    · exact z.elim
end
end DL
namespace DL
open PySem PySem.Spec PyProof.Rows L2
/-- all but what slot i owns is put aside -/
theorem Sim.asideO {K : Fg} {ω : List Sh} {F G H : Hp} {ρ : Rho} {σ : L2.St} (S : Sim K ω F G H ρ σ) {i : Nat} {s s0 : Sh} {d0 : D} (h1 : ω[i]? = some s) (hs : coreSh s = s0) (h2 : ρ[i]? = some (some d0)) (href : ∀ v fi, Own K F H s0 v d0 fi → ∃ a, v = .ref a) :
    ∃ a fi G', σ[i]? = some (some (.ref a)) ∧ Own K F H s0 (.ref a) d0 fi ∧ (∀ b ∈ fi, F b = none ∧ G' b = none) ∧ LeG K G' H ∧ Dj K F G' ∧
      ∀ {rs : Sh} {F' H' : Hp} {d y : D} {v : V}, Le F F' → Sim K [rs, .pin a s0] F' G' H' [some d, some y] [some v, some (.ref a)] → Sim K (rs :: ω) F' G H' (some d :: ρ.set i (some y)) (some v :: σ) := by
  obtain ⟨⟨fp, o, n⟩, l, g, dj⟩ := S
  obtain ⟨v, fi, fo, e, w, nn, m, back⟩ := o.split h1 h2
  have wc := w.core
  rw [hs] at wc
  obtain ⟨a, rfl⟩ := href v fi wc
  have no : ∀ b ∈ fo, F b = none ∧ G b = none := fun b hb => n b ((m b).mpr (.inr hb))
  have sub : ∀ {b : Addr}, G b ≠ none → withH G H fo b ≠ none := fun {b} q => by
    by_cases mm : b ∈ fo
    · exact absurd (no b mm).2 q
    · rw [withH_out mm]; exact q
  have live : ∀ b ∈ fo, withH G H fo b ≠ none := fun b mm => by
    obtain ⟨u, e⟩ := o.live b ((m b).mpr (.inr mm))
    rw [withH_in mm, e]; exact fun z => nomatch z
  refine ⟨a, fi, withH G H fo, e, wc, fun b hb => ⟨(n b ((m b).mpr (.inl hb))).1, by rw [withH_out (nn b hb)]; exact (n b ((m b).mpr (.inl hb))).2⟩, g.with (fun b hb => o.mu b ((m b).mpr (.inr hb))), dj.with g (fun b q => ?_) (fun b hb => o.mu b ((m b).mpr (.inr hb))), fun {rs' F' H' d y v} lf S' => ?_⟩
  · by_cases mm : b ∈ fo
    · exact (no b mm).1
    · rw [withH_out mm] at q; exact dj.1 b q
  · obtain ⟨⟨fq, o', n'⟩, l', g', dj'⟩ := S'
    cases o' with
    | @bd _ _ _ _ _ _ f1 f2 w1 o2 nn1 =>
      cases o2 with
      | @bd _ _ _ _ _ _ f3 f4 w2 o3 nn2 =>
        cases o3
        rw [List.append_nil] at nn1 n'
        have apart : ∀ b ∈ f1 ++ f3, b ∉ fo := fun b hb z => live b z (n' b hb).2
        have w3 : Own K F' H' s (.ref a) y f3 := w.uncore (by rw [hs]; cases w2 with | pin w2 => exact w2)
        obtain ⟨fp', o', m'⟩ := back F' H' y f3 lf (g'.kept fun b hb => o.mu b ((m b).mpr (.inr hb))) w3 fun b hb => apart b (List.mem_append_right _ hb)
        refine ⟨⟨f1 ++ fp', .bd w1 o' fun b hb z => ?_, fun b hb => ?_⟩, l', fun b u q => ?_, ⟨fun b q => dj'.1 b (sub q), dj.2⟩⟩
        · rcases (m' b).mp z with z | z
          · exact nn1 b hb z
          · exact apart b (List.mem_append_left _ hb) z
        · have old : ∀ {b : Addr}, withH G H fo b = none → G b = none := fun {b} z => by
            cases q : G b with
            | none => rfl
            | some u => exact absurd z (sub (by rw [q]; exact fun z => nomatch z))
          rcases List.mem_append.mp hb with z | z
          · exact ⟨(n' b (List.mem_append_left _ z)).1, old (n' b (List.mem_append_left _ z)).2⟩
          · rcases (m' b).mp z with z | z
            · exact ⟨(n' b (List.mem_append_right _ z)).1, old (n' b (List.mem_append_right _ z)).2⟩
            · exact ⟨dj'.1 b (live b z), (no b z).2⟩
        · refine g' b u ?_
          rw [withH_out fun mm => by rw [(no b mm).2] at q; cases q]
          exact q
/-- the first argument is owned, of shape s, and handed back changed -/
def spO (K : Fg) (mg : Str → Option Value) (np : Nat) (s rs : Sh) (f : List D → Res D) : Sp := fun vs H Q E => vs.length = np + 1 ∧ ∃ F G a fi vs' d0 ds', vs = .ref a :: vs' ∧ Own K F H s (.ref a) d0 fi ∧ (∀ b ∈ fi, F b = none ∧ G b = none) ∧ RDs K F vs' ds' ∧
  Le F H ∧ LeG K G H ∧ Dj K F G ∧
  (f (d0 :: ds')).sat (fun d ρo => ∀ v F' H', Le F F' → Sim K [rs, .pin a s] F' G H' (some d :: ρo) [some v, some (.ref a)] → Q v H')
    fun e _ => ∀ F' H' cls dx, Le F F' → Le F' H' → LeG K G H' → Dj K F' G → ExIs K mg F' H' e cls dx → E cls dx H'
abbrev sxO (N : List Str) (s rs : Sh) (a : Addr) (E : XK) : Sx := ⟨fun cls d _ H => E cls d H, List.replicate N.length .fz, ⟨rs, [s], [.pin a s], [some (.ref a)]⟩, []⟩
theorem fnOD {P : Program} {w : World} {K : Fg} {mg : Str → Option Value} {base : Heap} {k : Nat} {f : Addr} {N ps : List Str} {x qual : Str} {params : Arguments} {body : List Stmt} {scope : Scope} {dvs : List V} {kws : List (Str × V)} {fd : FuncData}
    {s rs : Sh} {ω' : Addr → List Sh} {b : M Fl} {p0 : Str} (thru : Bool) (Fn : FunD K x qual params body scope dvs kws f fd) (S : FnScope N (p0 :: ps) scope)
    (hb : ∀ (cdv : Value) (A : Around) (outer : List Env) (s' : Shared) (H : Hp) (E : XK) (a : Addr), Room k (A.deeper (envOfC qual scope s'.heap.objs.size f cdv)) → A.guards = some [] → cdOf K f = some cdv →
      DSs (cxOf (L2.CX P w) P w K mg base N qual scope f cdv A outer s' H E) (sxO N s rs a E) (.pin a s :: List.replicate (N.length - 1) .fz) body (ω' a) b)
    (ko : thru = true → ∀ a, KeepOk [s] (ω' a) [.pin a s] [some (.ref a)] := by first | exact fun _ _ => .pinI .nil | exact fun _ _ => .pin .nil | exact fun _ _ => .pinD .nil | exact fun z => Bool.noConfusion z)
    (hn : ps.length + 1 ≤ N.length := by decide) (hrs : thru = true → rs = .fz := by first | exact fun _ => rfl | exact fun z => nomatch z) :
    FnG P w K mg base (k + 1) f fd (p0 :: ps) (spO K mg ps.length s rs (runB N.length [s] thru b)) := by
  refine fnGD Fn S (fun vs H Q E h => h.1) fun cdv A outer s' H vs Q E room gd hcd ⟨hl, F, G, a, fi, vs', d0, ds', ev, ow, fr, r, fH, gH, dj, q⟩ => ⟨_, hb cdv A outer s' H E a room gd hcd, ?_⟩
  subst ev
  have hl' : vs'.length = ps.length := by simpa using hl
  have hds : ds'.length = ps.length := by rw [← r.length]; exact hl'
  refine ⟨F, G, (d0 :: ds').map some ++ List.replicate (N.length - (ds'.length + 1)) none, ⟨⟨fi ++ [], ?_, fun x m => ?_⟩, fH, gH, dj⟩, ?_⟩
  · have o := (OwnL.rds (H := H) r).app (N.length - (ds'.length + 1))
    rw [List.replicate_append_replicate, show ds'.length + (N.length - (ds'.length + 1)) = N.length - 1 by omega] at o
    unfold L2.start
    rw [hl, ← hds]
    exact OwnL.bd (.pin ow) o (fun _ _ z => by cases z)
  · exact fr x (by simpa using m)
  · refine Res.sat_mono (runB_sat q) (fun fl ρ' z => ?_) fun e ρ' z => ?_
    · cases fl with
      | rt d => exact z
      | nx =>
        obtain ⟨ht, z⟩ := z
        cases hrs ht
        refine fun σ' F' H' l S' => z .non F' H' l (Sim.push ?_ .non)
        obtain ⟨⟨fp, o, n⟩, a1, b1, dj1⟩ := S'
        obtain ⟨fq, q1, mm⟩ := o.keep (ko ht a)
        exact ⟨⟨fq, q1, fun b hb => n b (mm b hb)⟩, a1, b1, dj1⟩
      | bk => exact z.elim
      | ct => exact z.elim
    · exact fun σ' F' H' cls dx l S' x => z F' H' cls dx l S'.fH S'.gH S'.dj x
/-! ### methods on frozen instances -/
structure GotM (P : Program) (w : World) (K : Fg) (mg : Str → Option Value) (base : Heap) (k : Nat) (fd : FuncData) (C m : Str) (ps : List Str) (sp : Sp) : Prop where
  fn : FnG P w K mg base k (He.ma K (He.ga K C) m) fd ps sp
  bd : Binds K fd ps []
  cls : Cls K (He.ga K C)
  mt : Meth K (He.ga K C) m (He.ma K (He.ga K C) m)
def methM (C m : Str) (np : Nat) (g : List D → Res D) (mo : M D) (ms : M (List D)) : M D := bindM mo fun d => match d with
  | .ins C' fs => if C' = C ∧ fs.lookup m = none then bindM ms fun ds => if (d :: ds).length = np then ofRes (g (d :: ds)) else failM else failM
  | _ => failM
section
variable {X : Cx} {W : WX} {ω : List Sh} {k : Nat} {fd : FuncData} {ps : List Str} {x : Str} {p pos apos : Pos} {o e : Expr} {es : List Expr} {ms : M (List D)} {rs : Sh} {g : List D → Res D} {np : Nat} {mo : M D}
theorem de_meth {C m : Str} {pl : Sem Bool} (Fn : GotM X.prog X.w X.K X.mg X.base k fd C m ps (spF X.K X.mg np rs g)) (hr : Room k X.A) (gd : X.A.guards = some []) (hx : Lets X W) (ho : DE X W ω o .fz mo) (ha : DA X W ω es ms) (hps : np = ps.length := by rfl)
    (hca : ∀ (pins : List (Addr × Obj)) (σ : L2.St) (H : Hp) (s1 : Shared) (a : Addr) (Q : List V → Hp → Prop) (Q2 : VK), Inv X pins σ H s1 → (∀ us s2 vs H2, Inv X pins σ H2 s2 → Vals vs us → Q vs H2 → wpAny (model X.prog X.w) X.A (call (.ref (He.ma X.K (He.ga X.K C) m)) (.ref a :: us)) (EP X pins σ Q2) X.xe s2) → tA X.K X.mg W ω ms σ H Q →
      wpAny (model X.prog X.w) X.A (callWith pos (.ref (He.ma X.K (He.ga X.K C) m)) [.ref a] (backTo pos (starEach es X.env)) (backToKw pos (keywordEach [] X.env))) (EP X pins σ Q2) X.xe s1)
    (ht : eval (.Call (.Attribute o m apos) es [] pos) X.env = (do
      let ov ← eval o X.env
      standAt apos.atName
      let (f, first) ← holding [ov] (getMethod ov m pl)
      callWith pos f first (backTo pos (starEach es X.env)) (backToKw pos (keywordEach [] X.env))) := by rfl) :
    DE X W ω (.Call (.Attribute o m apos) es [] pos) rs (methM C m np g mo ms) := by
  refine ⟨fun pins s σ H Q I h => ?_⟩
  obtain ⟨F, q⟩ := tM_bind h
  refine PySem.W.methodCall_KW (pl := pl) (thn (ho.run pins s σ H _ I ⟨F, q⟩) fun u s1 ⟨x, H1, I1, rx, d, F1, rd, q1⟩ => ?_) ht
  obtain ⟨G1, ρ1, S1, q1⟩ := q1
  cases rd with
  | ins hf hd e1 rsx =>
    rename_i a dx cn fs ds
    have p1 : ((if cn = C ∧ List.lookup m ds = none then bindM ms fun dd => if (D.ins cn ds :: dd).length = np then ofRes (g (D.ins cn ds :: dd)) else failM else failM : M D) ρ1).sat _ _ := q1
    by_cases hc : cn = C ∧ List.lookup m ds = none
    · rw [if_pos hc] at p1
      obtain ⟨rfl, hl⟩ := hc
      obtain rfl : u = Value.ref a := rx
      refine getmeth_ok I1 (S1.fH _ _ hf) Fn.cls Fn.mt (lookup_none e1 hl) ?_
      refine hca pins σ H1 s1 a (fun vs H2 => spF X.K X.mg np rs g (.ref a :: vs) H2 Q fun cls d H => W cls d σ H) Q I1 (fun us s2 vs H2 I2 r q2 => ?_) ?_
      · have rr : Vals (V.ref a :: vs) (Value.ref a :: us) := .cons rfl r
        have b := Fn.bd s2 (.ref a :: us) I2.kIn (by rw [List.append_nil, ← rr.length, ← hps]; exact q2.1)
        rw [List.append_nil] at b
        exact run_g Fn.fn hr gd hx I2 b rr q2
      · refine ⟨F1, G1, ρ1, S1, Res.sat_mono (Res.sat_bind p1) (fun dd ρ2 p vs F2 H2 l S2 rv => ?_) fun _ _ z => z⟩
        split at p
        · rename_i hnp
          obtain ⟨G', gH, dj, back⟩ := S2.aside
          have rself : RD X.K F2 (.ref a) (.ins cn ds) := (RD.ins hf hd e1 rsx).mono l
          refine ⟨by rw [List.length_cons, rv.length]; simpa using hnp, F2, G', .ins cn ds :: dd, .cons rself rv, S2.fH, gH, dj, ?_⟩
          have p : (ofRes (g (D.ins cn ds :: dd)) ρ2).sat _ _ := p
          unfold ofRes at p
          cases eg : g (D.ins cn ds :: dd) with
          | no => rw [eg] at p; exact p
          | ok d ρ3 => rw [eg] at p; exact fun v F' H' l' S' => p v F' H' (l.trans l') (back l' S')
          | exc e ρ3 => rw [eg] at p; exact fun F' H' cls dx l' fH' gH' dj' xx => p F' H' cls dx (l.trans l') (back (ω' := []) (ρ' := []) (σ' := []) l' ⟨⟨[], .nil, fun _ m => by cases m⟩, fH', gH', dj'⟩) xx
        · exact p.elim
    · rw [if_neg hc] at p1; exact p1.elim
  | _ => exact q1.elim
end
end DL
namespace DL
open PySem PySem.Spec PyProof.Rows L2
section
variable {X : Cx} {W : WX} {ω : List Sh} {k : Nat} {fd : FuncData} {ps : List Str} {x : Str} {p pos apos : Pos} {o e : Expr} {es : List Expr} {ms : M (List D)} {rs : Sh} {g : List D → Res D} {np : Nat} {mo : M D}
/-- o.m(e, ..) -/
theorem dm {C m : Str} {pl : Sem Bool} (Fn : GotM X.prog X.w X.K X.mg X.base k fd C m ps (spF X.K X.mg np rs g)) (hr : Room k X.A) (gd : X.A.guards = some []) (hx : Lets X W) (ho : DE X W ω o .fz mo) (ha : DA X W ω (e :: es) ms) (hps : np = ps.length := by rfl)
    (hst : starEach (e :: es) X.env = (false, eval e X.env) :: starEach es X.env := by rfl) (hpl : (backTo pos (starEach es X.env)).any (·.1) = false := by rfl)
    (ht : eval (.Call (.Attribute o m apos) (e :: es) [] pos) X.env = (do
      let ov ← eval o X.env
      standAt apos.atName
      let (f, first) ← holding [ov] (getMethod ov m pl)
      callWith pos f first (backTo pos (starEach (e :: es) X.env)) (backToKw pos (keywordEach [] X.env))) := by rfl) :
    DE X W ω (.Call (.Attribute o m apos) (e :: es) [] pos) rs (methM C m np g mo ms) :=
  de_meth (pl := pl) Fn hr gd hx ho ha hps (fun pins σ H s1 a Q Q2 I1 kk t => PySem.W.callWith_K (first := [.ref a]) (h₀ := X.base) I1.ok.mod.kin Fn.mt.kp (thn (ha.run pos pins s1 σ H _ I1 t) fun us s2 ⟨vs, H2, I2, r, q2⟩ => ⟨I2.kIn, kk us s2 vs H2 I2 r q2⟩) hst hpl) ht
/-- o.m() -/
theorem dm0 {C m : Str} {pl : Sem Bool} (Fn : GotM X.prog X.w X.K X.mg X.base k fd C m ps (spF X.K X.mg np rs g)) (hr : Room k X.A) (gd : X.A.guards = some []) (hx : Lets X W) (ho : DE X W ω o .fz mo) (hps : np = ps.length := by rfl)
    (ht : eval (.Call (.Attribute o m apos) [] [] pos) X.env = (do
      let ov ← eval o X.env
      standAt apos.atName
      let (f, first) ← holding [ov] (getMethod ov m pl)
      callWith pos f first (backTo pos (starEach [] X.env)) (backToKw pos (keywordEach [] X.env))) := by rfl) :
    DE X W ω (.Call (.Attribute o m apos) [] [] pos) rs (methM C m np g mo nilM) :=
  de_meth (pl := pl) Fn hr gd hx ho da_nil hps (fun pins σ H s1 a Q Q2 I1 kk ⟨F, G, ρ, S, q⟩ => PySem.W.callWith_K0 (first := [.ref a]) I1.kIn Fn.mt.kp (kk [] s1 [] H I1 .nil (q [] F H (Le.refl _) S .nil))) ht
/-! ### instances made -/
structure GotK (P : Program) (w : World) (K : Fg) (mg : Str → Option Value) (base : Heap) (k : Nat) (fd : FuncData) (C : Str) (ps : List Str) (sp : Sp) : Prop where
  fn : FnG P w K mg base k (He.ma K (He.ga K C) "__init__") fd ps sp
  bd : Binds K fd ps []
  mak : Mk K (He.ga K C) (He.ma K (He.ga K C) "__init__")
  mg : mg C = some (.ref (He.ga K C))
def ofMade (r : Res D) : M D := fun ρ => match r with
  | .ok .non [some d] => .ok d ρ
  | .exc e _ => .exc e ρ
  | _ => .no
def makeM (C : Str) (np : Nat) (g : List D → Res D) (ms : M (List D)) : M D := bindM ms fun ds => if ds.length = np then ofMade (g (.ins C [] :: ds)) else failM
theorem Sim.unpin {K : Fg} {ω : List Sh} {F G H : Hp} {ρ : Rho} {σ : L2.St} {a : Addr} {s : Sh} {v : V} {d : D} (S : Sim K (.pin a s :: ω) F G H (some d :: ρ) (some v :: σ)) : Sim K (s :: ω) F G H (some d :: ρ) (some v :: σ) := by
  obtain ⟨⟨fp, o, n⟩, l, g, dj⟩ := S
  cases o with
  | bd w o nn => cases w with | pin w => exact ⟨⟨_, .bd w o nn, n⟩, l, g, dj⟩
theorem run_makeG {C : Str} {pins : List (Addr × Obj)} {σ : L2.St} {H : Hp} {s : Shared} {Q : VK} {us : List Value} {vs : List V} (Fn : GotK X.prog X.w X.K X.mg X.base k fd C ps (spO X.K X.mg np (.ins []) .fz g)) (hr : Room (k + 1) X.A) (gd : X.A.guards = some []) (hx : Lets X W) (hps : np + 1 = ps.length)
    (I : Inv X pins σ H s) (r : Vals vs us) (hl : vs.length = np)
    (h : ∀ x dx, H x = none → H dx = none → dx ≠ x → spO X.K X.mg np (.ins []) .fz g (.ref x :: vs) (upd (upd H dx (.own x)) x (.ins (He.ga X.K C) dx [])) (fun v H2 => v = .non ∧ Q (.ref x) H2) fun cls d H => W cls d σ H) :
    wpAny (model X.prog X.w) X.A (call (.ref (He.ga X.K C)) us) (EP X pins σ Q) X.xe s := by
  have hq := h (s.heap.objs.size + 1) s.heap.objs.size (I.hok.fresh (Nat.le_succ _)) (I.hok.fresh (Nat.le_refl _)) (Nat.ne_of_lt (Nat.lt_succ_self _))
  have I2 := Inv.made (C := He.ga X.K C) I
  have r2 : Vals (V.ref (s.heap.objs.size + 1) :: vs) (Value.ref (s.heap.objs.size + 1) :: us) := .cons rfl r
  have b := Fn.bd _ (Value.ref (s.heap.objs.size + 1) :: us) I2.kIn (by rw [List.append_nil, ← r2.length, ← hps, List.length_cons, hl])
  rw [List.append_nil] at b
  refine wpAny_call (make_map (f := He.ma X.K (He.ga X.K C) "__init__") I.kIn Fn.mak.makes Fn.mak.init (beq_iff_eq.mp Fn.mak.fn) (codeAny_mono (Fn.fn.run _ X.stack _ _ ⟨Value.ref (s.heap.objs.size + 1) :: us, []⟩ (Value.ref (s.heap.objs.size + 1) :: us) _ _ (fun cls d H => W cls d σ H) (hr.make (He.ga X.K C) us []) gd
    (I2.env0.make (He.ga X.K C) us []) b r2 hq) fun r s' hq' => ?_))
  cases r with
  | error e => exact hx σ pins _ _ e s' I2 hq'
  | ok fl =>
    cases fl with
    | ret u =>
      obtain ⟨v, H', I3, rv, ev, q3⟩ := I2.after hq'
      subst ev
      exact ⟨rv, ⟨V.ref (s.heap.objs.size + 1), H', I3, rfl, q3⟩⟩
    | next => exact False.elim hq'
    | brk => exact False.elim hq'
    | cont => exact False.elim hq'
/-- C(e, ..) -/
theorem de_make {C : Str} (Fn : GotK X.prog X.w X.K X.mg X.base k fd C ps (spO X.K X.mg np (.ins []) .fz g)) (hr : Room (k + 1) X.A) (gd : X.A.guards = some []) (hx : Lets X W) (ha : DA X W ω (e :: es) ms) (hg : Gl X C := by rfl) (hps : np + 1 = ps.length := by rfl)
    (hdb : (C == ("__debug__" : Str)) = false := by decide) (he : starEach (e :: es) X.env = (false, eval e X.env) :: starEach es X.env := by rfl) (hpl : (backTo pos (starEach es X.env)).any (·.1) = false := by rfl) :
    DE X W ω (.Call (.Name C p) (e :: es) [] pos) (.ins []) (makeM C np g ms) := by
  refine ⟨fun pins s σ H Q I h => ?_⟩
  refine wpAny_Call_Name_kw (ld_glob I hg Fn.mg ?_ hdb)
  obtain ⟨F, G, ρ, S, h⟩ := h
  have want : tA X.K X.mg W ω ms σ H fun vs H1 => vs.length = np ∧ ∀ x dx, H1 x = none → H1 dx = none → dx ≠ x → spO X.K X.mg np (.ins []) .fz g (.ref x :: vs) (upd (upd H1 dx (.own x)) x (.ins (He.ga X.K C) dx [])) (fun v H2 => v = .non ∧ Q (.ref x) H2) fun cls d H => W cls d σ H := by
    refine ⟨F, G, ρ, S, Res.sat_mono (Res.sat_bind h) (fun ds ρ1 q vs F1 H1 l S1 rv => ?_) fun _ _ z => z⟩
    split at q
    · rename_i hnp
      refine ⟨by rw [rv.length]; exact hnp, fun x dx nx nd ne => ?_⟩
      obtain ⟨G', gH, dj, back⟩ := S1.aside
      have lH : Le H1 (upd (upd H1 dx (.own x)) x (.ins (He.ga X.K C) dx [])) := fun b u e => by
        rw [upd_ne (ne_of_none e nx), upd_ne (ne_of_none e nd)]; exact e
      refine ⟨by rw [List.length_cons, rv.length, hnp], F1, G', x, [x, dx], vs, .ins C [], ds, rfl, ?_, fun b hb => ?_, rv, S1.fH.trans lH, gH.trans lH, dj, ?_⟩
      · exact .ins upd_same (by rw [upd_ne ne]; exact upd_same) .nil (fun z => by cases z) (fun z => by cases z)
      · have : b = x ∨ b = dx := by simpa using hb
        rcases this with rfl | rfl
        · exact ⟨S1.fH.none nx, gH.none nx⟩
        · exact ⟨S1.fH.none nd, gH.none nd⟩
      · have q : (ofMade (g (.ins C [] :: ds)) ρ1).sat _ _ := q
        unfold ofMade at q
        cases eg : g (.ins C [] :: ds) with
        | no => rw [eg] at q; exact q
        | exc e ρ2 => rw [eg] at q; exact fun F' H' cls dx l' fH' gH' dj' xx => q F' H' cls dx (l.trans l') (back (ω' := []) (ρ' := []) (σ' := []) l' ⟨⟨[], .nil, fun _ m => by cases m⟩, fH', gH', dj'⟩) xx
        | ok d ρo =>
          rw [eg] at q
          refine fun v F' H' l' S' => ?_
          split at q
          · rename_i d' hr' h1
            injection h1 with e1 e2
            subst e1 e2
            have S2 := back l' S'
            obtain ⟨rv', S3⟩ := S2.top
            cases rv'
            exact ⟨rfl, q _ F' H' (l.trans l') S3.unpin⟩
          · rename_i h1; cases h1
          · exact q.elim
    · exact q.elim
  refine PySem.W.callWith_K (h₀ := X.base) I.ok.mod.kin Fn.mak.kp (thn (ha.run pos pins s σ H _ I want) fun us s1 ⟨vs, H1, I1, r, hl, q⟩ => ⟨I1.kIn, ?_⟩) he hpl
  exact run_makeG Fn hr gd hx hps I1 r hl q
end
end DL
namespace DL
open PySem PySem.Spec PyProof.Rows L2
/-! ### isinstance with an own class -/
structure ClsI (K : Fg) (C : Str) : Prop where
  cl : Cls K (He.ga K C)
  ha : PySem.W.findIn K (.ref (He.ga K C)) "__class__" = some (some (.builtin "object.__class__"))
  hn : PySem.W.specialIn K (.builtin "object.__class__") "__get__" = some (some (.builtin "getset_descriptor.__get__"))
  htk : PySem.W.takesIn K (.builtin "object.__class__") = some true
  hm : PySem.W.mroIn K (He.ga K C) (.type "object") = some true
def clsIB (K : Fg) (C : Str) : Bool := (He.Fa.cls C).ok K && (decide (PySem.W.findIn K (.ref (He.ga K C)) "__class__" = some (some (.builtin "object.__class__"))) && (decide (PySem.W.specialIn K (.builtin "object.__class__") "__get__" = some (some (.builtin "getset_descriptor.__get__"))) &&
  (decide (PySem.W.takesIn K (.builtin "object.__class__") = some true) && decide (PySem.W.mroIn K (He.ga K C) (.type "object") = some true))))
theorem clsIB.ok {K : Fg} {C : Str} (h : clsIB K C = true) : ClsI K C := by
  obtain ⟨a, h⟩ := He.ba h
  obtain ⟨b, h⟩ := He.ba h
  obtain ⟨c, h⟩ := He.ba h
  obtain ⟨d, e⟩ := He.ba h
  exact ⟨He.cls_ok a, of_decide_eq_true b, of_decide_eq_true c, of_decide_eq_true d, of_decide_eq_true e⟩
def baseTys : List String := ["NoneType", "bool", "int", "str", "list", "tuple", "dict"]
/-- what isinstance(x, C) tells of instances of the classes cs, and of built-in values -/
def isiB (K : Fg) (cs : List Str) (C : Str) : Bool := (cs.all fun C' => clsIB K C' && decide (PySem.W.kitOne K (.ref (He.ga K C')) (.ref (He.ga K C)) = some (C' == C))) && baseTys.all fun n => decide (PySem.W.kitOne K (.type n) (.ref (He.ga K C)) = some false)
def isiT (d : D) : Option D := match tyName d with
  | some n => if baseTys.contains n = true then some (.bl false) else none
  | none => none
def isiC (cs : List Str) (C : Str) (d : D) : Option D := match d with
  | .ins C' _ => if cs.contains C' = true then some (.bl (C' == C)) else none
  | d => isiT d
section
variable {X : Cx} {W : WX} {ω : List Sh} {pos : Pos} {a b c e : Expr} {m m1 m2 m3 : M D}
theorem de_isiC {cs : List Str} {C : Str} {p p2 : Pos} (hi : isiB X.K cs C = true) (hg : Gl X "isinstance") (hm : X.mg "isinstance" = none) (ha : DE X W ω a .fz m) (hC : X.mg C = some (.ref (He.ga X.K C))) (hgC : Gl X C := by rfl) (hdb : (C == ("__debug__" : Str)) = false := by decide)
    (he : starEach (a :: [.Name C p2]) X.env = (false, eval a X.env) :: starEach [.Name C p2] X.env := by rfl) (he2 : starEach [.Name C p2] X.env = (false, eval (.Name C p2) X.env) :: starEach [] X.env := by rfl) (hpl : (backTo pos (starEach [.Name C p2] X.env)).any (·.1) = false := by rfl) :
    DE X W ω (.Call (.Name "isinstance" p) [a, .Name C p2] [] pos) .fz (un1 (isiC cs C) m) := by
  obtain ⟨i1, i2⟩ := He.ba hi
  have hy : PE X (.Name C p2) (tC (.ref (He.ga X.K C))) := pe_glob hgC hC rfl hdb
  refine PE.imp (pe_callB call_isi hg hm boot_isinstance (pa_cons ha (pa_cons hy pa_nil he2) he) (by decide) (by decide) he hpl) fun σ H Q q => ?_
  obtain ⟨F, q⟩ := tun q
  refine ⟨F, tMF_mono q fun x H1 ⟨F1, d, r, e, l, rd, k⟩ => ?_⟩
  have base : isiT d = some r → rIsi X.K [x, .ref (He.ga X.K C)] H1 Q := fun e => by
    unfold isiT at e
    split at e
    · rename_i n en
      split at e
      · rename_i hb
        cases e
        have hz := List.all_eq_true.mp i2 n (List.contains_iff_mem.mp hb)
        exact ⟨_, _, _, _, false, rfl, .own _, tyName.ok rd l en, of_decide_eq_true hz, k _ F1 H1 (Gr.refl l) (.bl _)⟩
      · cases e
    · cases e
  unfold isiC at e
  split at e
  · rename_i cn ds
    split at e
    · rename_i hc
      cases e
      have hz := List.all_eq_true.mp i1 cn (List.contains_iff_mem.mp hc)
      obtain ⟨z1, z2⟩ := He.ba hz
      have z := clsIB.ok z1
      cases rd with
      | ins hf hd e1 rs => exact ⟨_, _, _, _, _, rfl, .own _, .base (.ins (l _ _ hf) z.cl z.ha z.hn z.htk z.hm), of_decide_eq_true z2, k _ F1 H1 (Gr.refl l) (.bl _)⟩
    · cases e
  · exact base e
end
/-! ### facts by Bools -/
def fldB (K : Fg) (cs : List Str) (f : Str) : Bool := cs.all fun C => (He.Fa.cls C).ok K && (He.Fa.noat C f).ok K
theorem fldB.ok {K : Fg} {cs : List Str} {f : Str} (h : fldB K cs f = true) : FldOk K cs f := fun C hC => by
  obtain ⟨a, b⟩ := He.ba (List.all_eq_true.mp h C hC)
  exact ⟨He.cls_ok a, He.noat_ok b⟩
end DL
/-! DL: dicts. -/
namespace DL
open PySem PySem.Spec PyProof.Rows L2
def keyD : D → Option Key
  | .int i => some (.inl i)
  | .str x => some (.inr x)
  | _ => none
def keysD : List D → Option (List Key)
  | [] => some []
  | d :: ds => (keyD d).bind fun k => (keysD ds).map (k :: ·)
theorem keyD.ok {K : Fg} {F : Hp} {y : V} {d : D} {k : Key} (r : RD K F y d) (e : keyD d = some k) : y = kV k := by
  cases r <;> first | (cases e; rfl) | cases e
theorem keysD.ok {K : Fg} {F : Hp} : ∀ {ds : List D} {ys : List V} {k : List Key}, RDs K F ys ds → keysD ds = some k → ys = k.map kV
  | [], _, _, .nil, e => by cases e; rfl
  | d :: ds, _, _, .cons r rs, e => by
    unfold keysD at e
    obtain ⟨k0, e1, e2⟩ := Option.bind_eq_some_iff.mp e
    obtain ⟨ks, e3, rfl⟩ := Option.map_eq_some_iff.mp e2
    rw [keyD.ok r e1, keysD.ok rs e3]; rfl
section
variable {κ : Type} [DecidableEq κ]
def valD (kvs : List (κ × D)) (k : κ) : Option D := (kvs.find? fun kv => decide (kv.1 = k)).map (·.2)
def putKD (kvs : List (κ × D)) (k : κ) (d : D) : List (κ × D) :=
  if (kvs.any fun kv => decide (kv.1 = k)) = true then kvs.map (fun kv => if kv.1 = k then (kv.1, d) else kv) else kvs ++ [(k, d)]
theorem val_rd {K : Fg} {F : Hp} {k : κ} : ∀ {vs : List (κ × V)} {ds : List (κ × D)}, vs.map (·.1) = ds.map (·.1) → RDs K F (vs.map (·.2)) (ds.map (·.2)) → ((valV vs k).isSome = (valD ds k).isSome) ∧ ∀ d, valD ds k = some d → ∃ v, valV vs k = some v ∧ RD K F v d
  | [], [], _, _ => ⟨rfl, fun d e => by cases e⟩
  | [], _ :: _, e, _ => by cases e
  | _ :: _, [], e, _ => by cases e
  | (g, x) :: vs, (g', y) :: ds, e, r => by
    simp only [List.map_cons, List.cons.injEq] at e
    obtain ⟨rfl, e⟩ := e
    cases r with
    | cons r rs =>
      obtain ⟨a, b⟩ := val_rd (k := k) e rs
      unfold valV valD at *
      by_cases q : g = k
      · subst q
        simp only [List.find?_cons, decide_true]
        exact ⟨rfl, fun d h => by cases h; exact ⟨x, rfl, r⟩⟩
      · simp only [List.find?_cons, decide_eq_false q]
        exact ⟨a, b⟩
theorem any_keys {k : κ} : ∀ {vs : List (κ × V)} {ds : List (κ × D)}, vs.map (·.1) = ds.map (·.1) → (vs.any fun kv => decide (kv.1 = k)) = ds.any fun kv => decide (kv.1 = k)
  | [], [], _ => rfl
  | [], _ :: _, e => by cases e
  | _ :: _, [], e => by cases e
  | (g, x) :: vs, (g', y) :: ds, e => by
    simp only [List.map_cons, List.cons.injEq] at e
    obtain ⟨rfl, e⟩ := e
    rw [List.any_cons, List.any_cons, any_keys e]
theorem putm_rd {K : Fg} {F : Hp} {k : κ} {v : V} {d : D} (r0 : RD K F v d) : ∀ {vs : List (κ × V)} {ds : List (κ × D)}, vs.map (·.1) = ds.map (·.1) → RDs K F (vs.map (·.2)) (ds.map (·.2)) →
    (vs.map fun kv => if kv.1 = k then (kv.1, v) else kv).map (·.1) = (ds.map fun kv => if kv.1 = k then (kv.1, d) else kv).map (·.1) ∧ RDs K F ((vs.map fun kv => if kv.1 = k then (kv.1, v) else kv).map (·.2)) ((ds.map fun kv => if kv.1 = k then (kv.1, d) else kv).map (·.2))
  | [], [], _, _ => ⟨rfl, .nil⟩
  | [], _ :: _, e, _ => by cases e
  | _ :: _, [], e, _ => by cases e
  | (g, x) :: vs, (g', y) :: ds, e, r => by
    simp only [List.map_cons, List.cons.injEq] at e
    obtain ⟨rfl, e⟩ := e
    cases r with
    | cons r rs =>
      obtain ⟨a, b⟩ := putm_rd r0 (k := k) e rs
      simp only [List.map_cons]
      by_cases q : g = k
      · simp only [if_pos q]; exact ⟨by rw [a], .cons r0 b⟩
      · simp only [if_neg q]; exact ⟨by rw [a], .cons r b⟩
theorem put_rd {K : Fg} {F : Hp} {k : κ} {v : V} {d : D} (r0 : RD K F v d) {vs : List (κ × V)} {ds : List (κ × D)} (e : vs.map (·.1) = ds.map (·.1)) (r : RDs K F (vs.map (·.2)) (ds.map (·.2))) : (putK vs k v).map (·.1) = (putKD ds k d).map (·.1) ∧ RDs K F ((putK vs k v).map (·.2)) ((putKD ds k d).map (·.2)) := by
  unfold putK putKD
  rw [any_keys e]
  split
  · exact putm_rd r0 e r
  · refine ⟨?_, ?_⟩
    · rw [List.map_append, List.map_append, e]; rfl
    · rw [List.map_append, List.map_append]
      exact r.append (.cons r0 .nil)
end
theorem keys_len {κ : Type} {vs : List (κ × V)} {ds : List (κ × D)} (e : vs.map (·.1) = ds.map (·.1)) : vs.length = ds.length := by
  have := congrArg List.length e
  simpa using this
/-- d[k] by data: none inside: it is not there -/
def dgetD (d k : D) : Option (Option D) := match d with
  | .dK kvs => (keyD k).map (valD kvs)
  | .dT kvs => (match k with | .tup ks => (keysD ks).map (valD kvs) | _ => none)
  | .dZ kvs => (match k with | .tup ks => (keysD ks).map (valD kvs) | _ => none)
  | _ => none
theorem dget_k {K : Fg} {F H : Hp} {a : Addr} {y : V} {k : D} {vs : List (Key × V)} {ds : List (Key × D)} {o : Option D} (h : H a = some (.dK vs)) (e1 : vs.map (·.1) = ds.map (·.1)) (r : RDs K F (vs.map (·.2)) (ds.map (·.2))) (ry : RD K F y k) (e : dgetD (.dK ds) k = some o) :
    ∃ ov, DGet H a y ov ∧ ov.isSome = o.isSome ∧ ∀ d, o = some d → ∃ v, ov = some v ∧ RD K F v d := by
  obtain ⟨kk, ek, rfl⟩ := Option.map_eq_some_iff.mp (show (keyD k).map (valD ds) = some o from e)
  obtain ⟨p, q⟩ := val_rd (k := kk) e1 r
  exact ⟨_, .inl ⟨vs, kk, .inl h, keyD.ok ry ek, rfl⟩, p, q⟩
theorem dget_t {K : Fg} {F H : Hp} {a : Addr} {y : V} {k : D} {vs : List (List Key × V)} {ds : List (List Key × D)} {o : Option D} (h : Rd H a (.dT vs)) (e1 : vs.map (·.1) = ds.map (·.1)) (r : RDs K F (vs.map (·.2)) (ds.map (·.2))) (ry : RD K F y k) (l : Le F H) (e : dgetD (.dT ds) k = some o) :
    ∃ ov, DGet H a y ov ∧ ov.isSome = o.isSome ∧ ∀ d, o = some d → ∃ v, ov = some v ∧ RD K F v d := by
  cases k with
  | tup ks =>
    obtain ⟨kk, ek, rfl⟩ := Option.map_eq_some_iff.mp (show (keysD ks).map (valD ds) = some o from e)
    obtain ⟨p, q⟩ := val_rd (k := kk) e1 r
    cases ry with
    | tup hb rk => exact ⟨_, .inr ⟨vs, kk, _, h, rfl, by rw [← keysD.ok rk ek]; exact l _ _ hb, rfl⟩, p, q⟩
  | _ => cases e
section
variable {X : Cx} {W : WX} {C : Sx} {ω : List Sh} {pos : Pos} {a b c e : Expr} {m m1 m2 m3 : M D} {sh : Sh}
/-! ### frozen dicts -/
theorem dget_rd {K : Fg} {F H : Hp} {x y : V} {d k : D} {o : Option D} (rx : RD K F x d) (ry : RD K F y k) (l : Le F H) (e : dgetD d k = some o) :
    ∃ a ov, x = .ref a ∧ DGet H a y ov ∧ ov.isSome = o.isSome ∧ ∀ d, o = some d → ∃ v, ov = some v ∧ RD K F v d := by
  cases rx with
  | dK h e1 r => obtain ⟨ov, p⟩ := dget_k (l _ _ h) e1 r ry e; exact ⟨_, ov, rfl, p⟩
  | dT h e1 r => obtain ⟨ov, p⟩ := dget_t (.inl (l _ _ h)) e1 r ry l e; exact ⟨_, ov, rfl, p⟩
  | dZ h e1 r => obtain ⟨ov, p⟩ := dget_t (.inr ⟨_, l _ _ h⟩) e1 r ry l e; exact ⟨_, ov, rfl, p⟩
  | _ => cases e
def gDix (d k : D) : Option D := match dgetD d k with
  | some (some r) => some r
  | _ => none
theorem de_dix (hu : X.A.units + 1 < cLine) (ha : DE X W ω a .fz m1) (hb : DE X W ω b .fz m2) (hs : NoSl b) : DE X W ω (.Subscript a b pos) .fz (bin gDix m1 m2) := by
  refine PE.imp (pe_dget hu ha hb hs) fun σ H Q q => ?_
  obtain ⟨F, q⟩ := tM_bind q
  refine ⟨F, tMF_mono q fun x H1 ⟨d1, F1, r1, q1⟩ => ⟨F1, tMF_mono (tMF_bind q1) fun y H2 ⟨d2, F2, l2, r2, q2⟩ => ?_⟩⟩
  obtain ⟨l, r, e, k⟩ := tMF_lift q2
  unfold gDix at e
  split at e
  · rename_i r' ed
    cases e
    obtain ⟨a, ov, rfl, hg, _, hv⟩ := dget_rd (r1.mono l2) r2 l ed
    obtain ⟨v, rfl, rv⟩ := hv _ rfl
    exact ⟨a, v, rfl, hg, k v F2 H2 (Gr.refl l) rv⟩
  · cases e
def gDin (k d : D) : Option D := (dgetD d k).map fun o => .bl o.isSome
def gDnin (k d : D) : Option D := (dgetD d k).map fun o => .bl (!o.isSome)
theorem od_din (hu : X.A.units + 1 < cLine) : OpD X (compareOp .In) gDin := fun F d1 d2 r e pins s σ H x y v u Q I rx ry ⟨l, r1, r2, q⟩ => by
  unfold gDin at e
  obtain ⟨o, eo, rfl⟩ := Option.map_eq_some_iff.mp e
  obtain ⟨a, ov, rfl, hg, hs, _⟩ := dget_rd r2 r1 l eo
  obtain rfl : u = Value.ref a := ry
  exact d_in hu I hg rx fun s3 I3 => ⟨.bl ov.isSome, H, I3, rfl, by rw [hs]; exact q _ F H (Gr.refl l) (.bl _)⟩
theorem od_dnin (hu : X.A.units + 1 < cLine) : OpD X (compareOp .NotIn) gDnin := fun F d1 d2 r e pins s σ H x y v u Q I rx ry ⟨l, r1, r2, q⟩ => by
  unfold gDnin at e
  obtain ⟨o, eo, rfl⟩ := Option.map_eq_some_iff.mp e
  obtain ⟨a, ov, rfl, hg, hs, _⟩ := dget_rd r2 r1 l eo
  obtain rfl : u = Value.ref a := ry
  exact d_notIn hu I hg rx fun s3 I3 => ⟨.bl (!ov.isSome), H, I3, rfl, by rw [hs]; exact q _ F H (Gr.refl l) (.bl _)⟩
/-! ### owned dicts -/
/-- a new dict is owned -/
theorem Sim.newD {K : Fg} {ω : List Sh} {F G H : Hp} {ρ : Rho} {σ : L2.St} {p : Addr} {u : HO} {d : D} (S : Sim K ω F G H ρ σ) (np : H p = none) (w : Own K F (upd H p u) (.dct .fz) (.ref p) d [p]) : Sim K (.dct .fz :: ω) F G (upd H p u) (some d :: ρ) (some (.ref p) :: σ) := by
  obtain ⟨⟨fp, o, n⟩, a, b, dj⟩ := S
  have fD : F p = none := a.none np
  have gD : G p = none := b.none np
  refine ⟨⟨[p] ++ fp, .bd w (o.mono (Le.refl _) fun x m u e => by rw [upd_ne (ne_of_none e np)]; exact e) fun x m z => ?_, fun x m => ?_⟩, fun x u e => ?_, fun x u e => ?_, dj⟩
  · have : x = p := by simpa using m
    subst this
    obtain ⟨u, e⟩ := o.live x z
    rw [np] at e; cases e
  · rcases List.mem_append.mp m with m | m
    · have : x = p := by simpa using m
      subst this; exact ⟨fD, gD⟩
    · exact n x m
  · rw [upd_ne (ne_of_none e fD)]; exact a x u e
  · exact b.trans (Le.upd np) x u e
theorem de_newK : DE X W ω (.Dict [] [] pos) (.dct .fz) (pureM (.dK [])) := PE.imp pe_dnewK fun σ H Q ⟨F, G, ρ, S, q⟩ p np =>
  q (.ref p) F _ (Le.refl _) (S.newD np (.dK upd_same rfl .nil (fun z => by cases z)))
theorem de_newT : DE X W ω (.Dict [] [] pos) (.dct .fz) (pureM (.dT [])) := PE.imp pe_dnewT fun σ H Q ⟨F, G, ρ, S, q⟩ p np =>
  q (.ref p) F _ (Le.refl _) (S.newD np (.dT upd_same rfl .nil (fun z => by cases z)))
/-- d[k] = v by data -/
def dputD (d k v : D) : Option D := match d with
  | .dK kvs => if kvs.length < sizeLine then (keyD k).map fun k => .dK (putKD kvs k v) else none
  | .dT kvs => if kvs.length < sizeLine then (match k with | .tup ks => (keysD ks).map fun k => .dT (putKD kvs k v) | _ => none) else none
  | _ => none
/-- a dict that a name owns: read and written -/
theorem Sim.dctO {K : Fg} {ω : List Sh} {F G H : Hp} {ρ : Rho} {σ : L2.St} (S : Sim K ω F G H ρ σ) {i : Nat} {s : Sh} {d : D} (h1 : ω[i]? = some s) (hs : coreSh s = .dct .fz) (h2 : ρ[i]? = some (some d)) :
    ∃ a, σ[i]? = some (some (.ref a)) ∧ (∀ y k o, RD K F y k → dgetD d k = some o → ∃ ov, DGet H a y ov ∧ ov.isSome = o.isSome ∧ ∀ r, o = some r → ∃ v, ov = some v ∧ RD K F v r) ∧
      ∀ y k v dv d', RD K F y k → RD K F v dv → dputD d k dv = some d' → ∃ H', DPut H a y v H' ∧ Sim K ω F G H' (ρ.set i (some d')) σ := by
  obtain ⟨⟨fp, o, n⟩, l, g, dj⟩ := S
  obtain ⟨v0, fi, fo, e, w, nn, m, k0⟩ := o.split h1 h2
  have wc := w.core
  rw [hs] at wc
  have upS : ∀ {a : Addr} {u : HO} {d' : D}, fi = [a] → Own K F (upd H a u) (.dct .fz) (.ref a) d' [a] → v0 = .ref a → Sim K ω F G (upd H a u) (ρ.set i (some d')) σ := fun {a u d'} hfi wn hv => by
    subst hv hfi
    have inA : a ∈ fp := (m a).mpr (.inl (List.mem_cons_self))
    have fa : F a = none := (n a inA).1
    have ga : G a = none := (n a inA).2
    obtain ⟨fp', o', m'⟩ := k0 F (upd H a u) d' [a] (Le.refl _) (fun b hb u' q => by
      rw [upd_ne (fun z => nn a (List.mem_cons_self) (by rw [← z]; exact hb))]; exact q)
      (w.uncore (by rw [hs]; exact wn)) (fun b hb => nn b hb)
    refine ⟨⟨fp', o', fun b hb => n b ((m b).mpr ((m' b).mp hb))⟩, fun b u q => ?_, fun b u q => ?_, dj⟩
    · rw [upd_ne (ne_of_none q fa)]; exact l b u q
    · obtain ⟨w0, hw, mw⟩ := o.mu a inA
      exact g.upd ga hw mw b u q
  cases wc with
  | @dK _ a kvs ds fq ha e1 r na =>
    obtain ⟨rs, e0⟩ := r.fz_rds
    subst e0
    refine ⟨a, e, fun y k o ry ed => dget_k ha e1 rs ry ed, fun y k v dv d' ry rv ed => ?_⟩
    have ed : (if ds.length < sizeLine then (keyD k).map fun k => D.dK (putKD ds k dv) else none) = some d' := ed
    split at ed
    · rename_i hl
      obtain ⟨kk, ek, rfl⟩ := Option.map_eq_some_iff.mp ed
      obtain ⟨p1, p2⟩ := put_rd rv (k := kk) e1 rs
      refine ⟨_, .inl ⟨kvs, kk, ha, keyD.ok ry ek, by rw [keys_len e1]; exact hl, rfl⟩, upS rfl (.dK upd_same p1 (Owns.of_rds p2) (fun z => by cases z)) rfl⟩
    · cases ed
  | @dT _ a kvs ds fq ha e1 r na =>
    obtain ⟨rs, e0⟩ := r.fz_rds
    subst e0
    refine ⟨a, e, fun y k o ry ed => dget_t (.inl ha) e1 rs ry l ed, fun y k v dv d' ry rv ed => ?_⟩
    have ed : (if ds.length < sizeLine then (match k with | .tup ks => (keysD ks).map fun k => D.dT (putKD ds k dv) | _ => none) else none) = some d' := ed
    split at ed
    · rename_i hl
      split at ed
      · obtain ⟨kk, ek, rfl⟩ := Option.map_eq_some_iff.mp ed
        obtain ⟨p1, p2⟩ := put_rd rv (k := kk) e1 rs
        cases ry with
        | tup hb rk =>
          exact ⟨_, .inr ⟨kvs, kk, _, ha, rfl, by rw [← keysD.ok rk ek]; exact l _ _ hb, by rw [keys_len e1]; exact hl, rfl⟩, upS rfl (.dT upd_same p1 (Owns.of_rds p2) (fun z => by cases z)) rfl⟩
      · cases ed
    · cases ed
def isDct : D → Bool
  | .dK _ => true
  | .dT _ => true
  | _ => false
/-- slot i holds a dict -/
def chkD (i : Nat) : M D := fun ρ => match ρ[i]? with
  | some (some d) => if isDct d = true then .ok .non ρ else .no
  | _ => .no
theorem chkD_ok {i : Nat} {ρ : Rho} {P : D → Rho → Prop} {Z : Exn → Rho → Prop} (h : (chkD i ρ).sat P Z) : ∃ d, ρ[i]? = some (some d) ∧ P .non ρ := by
  unfold chkD at h
  split at h
  · rename_i d e
    split at h
    · exact ⟨d, e, h⟩
    · exact h.elim
  · exact h.elim
def getO (i : Nat) (g : Option D → Option D) (k : D) : M D := fun ρ => match ρ[i]? with
  | some (some d) => (match dgetD d k with
    | some o => (match g o with
      | some r => .ok r ρ
      | none => .no)
    | none => .no)
  | _ => .no
/-- name[k] of an owned dict -/
def dixoM (i : Nat) (mk : M D) : M D := bindM (chkD i) fun _ => bindM mk (getO i id)
theorem de_dixo {i : Nat} {x : Str} {p' : Pos} {mk : M D} {s : Sh} (hu : X.A.units + 1 < cLine) (h1 : ω[i]? = some s) (hs : coreSh s = .dct .fz) (hv : PE X (.Name x p') (tVar i)) (hk : DE X W ω b .fz mk) (hp : NoSl b) : DE X W ω (.Subscript (.Name x p') b pos) .fz (dixoM i mk) :=
  PE.imp (pe_dget hu hv hk hp) fun σ H Q ⟨F, G, ρ, S, q⟩ => by
    obtain ⟨d0, e0, q⟩ := chkD_ok (Res.sat_bind q)
    obtain ⟨al, ea, _⟩ := S.dctO h1 hs e0
    refine ⟨_, ea, F, G, ρ, S, Res.sat_mono (Res.sat_bind q) (fun k ρ1 p v F1 H1 l S1 => ?_) fun _ _ z => z⟩
    obtain ⟨rk, S2⟩ := S1.top
    unfold getO at p
    split at p
    · rename_i d e1
      split at p
      · rename_i o eo
        split at p
        · rename_i r er
          obtain ⟨al', ea', gg, _⟩ := S2.dctO h1 hs e1
          rw [ea] at ea'
          cases ea'
          obtain ⟨ov, hg, _, hv⟩ := gg _ _ _ rk eo
          have er : o = some r := er
          subst er
          obtain ⟨w, rfl, rw'⟩ := hv _ rfl
          exact ⟨al, w, rfl, hg, p w F1 H1 l (S2.push rw')⟩
        · exact p.elim
      · exact p.elim
    · exact p.elim
/-- k in name, k not in name, of an owned dict -/
def dinoM (i : Nat) (neg : Bool) (mk : M D) : M D := bindM mk (getO i fun o => some (.bl (o.isSome != neg)))
theorem de_dino {i : Nat} {x : Str} {p' : Pos} {mk : M D} {s : Sh} (hu : X.A.units + 1 < cLine) (h1 : ω[i]? = some s) (hs : coreSh s = .dct .fz) (hv : PE X (.Name x p') (tVar i)) (hk : DE X W ω b .fz mk) (hm : behindInMarks .In (.Name x p') = false := by with_unfolding_all rfl) : DE X W ω (.Compare b [.In] [.Name x p'] pos) .fz (dinoM i false mk) := by
  refine ⟨fun pins s' σ H Q I ⟨F, G, ρ, S, q⟩ => ?_⟩
  have want : tM X.K X.mg W ω .fz mk σ H fun y H1 => tVar i σ H1 fun x' H2 => ∃ a o, x' = .ref a ∧ DGet H2 a y o ∧ Q (.bl o.isSome) H2 := by
    refine ⟨F, G, ρ, S, Res.sat_mono (Res.sat_bind q) (fun k ρ1 p v F1 H1 l S1 => ?_) fun _ _ z => z⟩
    obtain ⟨rk, S2⟩ := S1.top
    unfold getO at p
    split at p
    · rename_i d e1
      split at p
      · rename_i o eo
        obtain ⟨al, ea, gg, _⟩ := S2.dctO h1 hs e1
        obtain ⟨ov, hg, hss, _⟩ := gg _ _ _ rk eo
        refine ⟨_, ea, al, ov, rfl, hg, ?_⟩
        rw [hss]
        exact p _ F1 H1 l (S2.push (by rw [Bool.bne_false]; exact .bl _))
      · exact p.elim
    · exact p.elim
  refine wpAny_Compare1 (binT hk hv I want fun v u s2 y x' H2 I2 ry rx q2 => ?_) hm
  obtain ⟨a, o, rfl, hg, q3⟩ := q2
  obtain rfl : u = Value.ref a := rx
  exact d_in hu I2 hg ry fun s3 I3 => ⟨.bl o.isSome, H2, I3, rfl, q3⟩
theorem de_dnino {i : Nat} {x : Str} {p' : Pos} {mk : M D} {s : Sh} (hu : X.A.units + 1 < cLine) (h1 : ω[i]? = some s) (hs : coreSh s = .dct .fz) (hv : PE X (.Name x p') (tVar i)) (hk : DE X W ω b .fz mk) (hm : behindInMarks .NotIn (.Name x p') = false := by with_unfolding_all rfl) : DE X W ω (.Compare b [.NotIn] [.Name x p'] pos) .fz (dinoM i true mk) := by
  refine ⟨fun pins s' σ H Q I ⟨F, G, ρ, S, q⟩ => ?_⟩
  have want : tM X.K X.mg W ω .fz mk σ H fun y H1 => tVar i σ H1 fun x' H2 => ∃ a o, x' = .ref a ∧ DGet H2 a y o ∧ Q (.bl (!o.isSome)) H2 := by
    refine ⟨F, G, ρ, S, Res.sat_mono (Res.sat_bind q) (fun k ρ1 p v F1 H1 l S1 => ?_) fun _ _ z => z⟩
    obtain ⟨rk, S2⟩ := S1.top
    unfold getO at p
    split at p
    · rename_i d e1
      split at p
      · rename_i o eo
        obtain ⟨al, ea, gg, _⟩ := S2.dctO h1 hs e1
        obtain ⟨ov, hg, hss, _⟩ := gg _ _ _ rk eo
        refine ⟨_, ea, al, ov, rfl, hg, ?_⟩
        rw [hss]
        exact p _ F1 H1 l (S2.push (by rw [Bool.bne_true]; exact .bl _))
      · exact p.elim
    · exact p.elim
  refine wpAny_Compare1 (binT hk hv I want fun v u s2 y x' H2 I2 ry rx q2 => ?_) hm
  obtain ⟨a, o, rfl, hg, q3⟩ := q2
  obtain rfl : u = Value.ref a := rx
  exact d_notIn hu I2 hg ry fun s3 I3 => ⟨.bl (!o.isSome), H2, I3, rfl, q3⟩
/-- name[k] = v, an owned dict -/
def dputM (i : Nat) (m mk : M D) : M Fl := bindM m fun v => bindM (chkD i) fun _ => bindM mk fun k ρ => match ρ[i]? with
  | some (some d) => (match dputD d k v with
    | some d' => .ok .nx (ρ.set i (some d'))
    | none => .no)
  | _ => .no
theorem ds_dput {i : Nat} {x : Str} {ix : Expr} {mk : M D} {p' p2 : Pos} {s : Sh} (wk : Wk ω C.ωe) (hu : X.A.units + 1 < cLine) (h1 : ω[i]? = some s) (hs : coreSh s = .dct .fz) (hv : PE X (.Name x p') (tVar i)) (he : DE X C.W ω e .fz m) (hk : DE X C.W ω ix .fz mk)
    (hsw : swapsWith e (some (.Subscript (.Name x p') ix p2)) pos.line X.env = pure false := by rfl) : DS X C ω (.Assign [.Subscript (.Name x p') ix p2] e pos) ω (dputM i m mk) :=
  PS.imp (ps_dput hu hv hk he hsw) fun D σ H q => by
    obtain ⟨F, q⟩ := tS_bind (sh := .fz) wk q
    refine ⟨F, tMF_mono q fun v H1 ⟨d, F1, G, ρ1, S, z⟩ => ?_⟩
    obtain ⟨r, S1⟩ := S.top
    obtain ⟨d0, e0, z⟩ := chkD_ok (Res.sat_bind z)
    obtain ⟨al, ea, _⟩ := S1.dctO h1 hs e0
    refine ⟨_, ea, ?_⟩
    refine ⟨F1, G, ρ1, S1, Res.sat_mono (Res.sat_bind z) (fun k ρ2 p w F2 H2 l S2 => ?_) fun _ _ z => z.zx wk⟩
    obtain ⟨rk, S3⟩ := S2.top
    split at p
    · rename_i dd e2
      split at p
      · rename_i d' ed
        obtain ⟨al', ea', _, up⟩ := S3.dctO h1 hs e2
        rw [ea] at ea'
        cases ea'
        obtain ⟨H4, hput, S4⟩ := up _ _ _ _ _ rk (r.mono l) ed
        exact ⟨al, H4, rfl, hput, p σ F2 _ l S4⟩
      · exact p.elim
    · exact p.elim
end
end DL
/-! DL: comprehensions of two clauses. -/
namespace DL
open PySem PySem.Spec PyProof.Rows L2
theorem Sim.wipe1 {K : Fg} {ω : List Sh} {F G H : Hp} {ρ : Rho} {σ : L2.St} {s : Sh} {d : D} {v : V} (S : Sim K (s :: ω) F G H (some d :: ρ) (some v :: σ)) {vs : List Nat} (hv : ∀ i ∈ vs, ω[i]? = some .fz) : Sim K (s :: ω) F G H (some d :: wipeR ρ vs) (some v :: L2.wipe σ vs) := by
  obtain ⟨G2, S9, back2⟩ := S.hide
  exact back2 (Le.refl _) (S9.wipe hv)
/-- the turns of one clause, the list that is filled behind the top -/
theorem lc_inner {K : Fg} {mg : Str → Option Value} {ω : List Sh} {vs : List Nat} {t : Tg} {tt : M Bool} {te : M D} (hv : ∀ i ∈ vs, ω[i]? = some .fz) {F0 G H0 : Hp} {Da : Addr} {ys0 : List D} {ρ0 : Rho} {σ : L2.St} {J : It} {ds : List D}
    (S : Sim K (.lst .fz :: ω) F0 G H0 (some (.lst ys0) :: ρ0) (some (.ref Da) :: σ)) (wl : Walks K F0 J ds) {zs0 : List D} {ρe : Rho} (el0 : lcL vs t tt te ds (wipeR ρ0 vs) = .ok zs0 ρe) (hb0 : ys0.length + zs0.length ≤ sizeLine) (Nx : Hp → Prop)
    (fin : ∀ F' H', Le F0 F' → Sim K (.lst .fz :: ω) F' G H' (some (.lst (ys0 ++ zs0)) :: ρe) (some (.ref Da) :: L2.wipe σ vs) → Nx H') :
    ∃ W1 : Nat → Nat → Hp → Prop, (∃ m, W1 0 m H0) ∧ ∀ j k H, W1 j k H → (J.stop j H ∧ Nx H) ∨ (J.go j H ∧ ∃ Nx1 : Hp → Prop, (∀ H', Nx1 H' → ∃ k', k' < k ∧ W1 (j + 1) k' H') ∧ ∀ x H', J.yld j H x H' → tGD K ω vs t x (L2.wipe σ vs) H' fun σ3 H5 => L2.wipe σ3 vs = L2.wipe σ vs ∧ tT K mg W0 ω tt σ3 H5 fun b H6 =>
      if b = true then tM K mg W0 ω .fz te σ3 H6 fun y H7 => ∃ acc, H7 Da = some (.lst acc) ∧ acc.length < sizeLine ∧ Nx1 (upd H7 Da (.lst (acc ++ [y]))) else Nx1 H6) := by
  refine ⟨fun i n H2 => n = ds.length - i ∧ i ≤ ds.length ∧ ∃ F2 ρ2 ys zs, Le F0 F2 ∧ Sim K (.lst .fz :: ω) F2 G H2 (some (.lst ys) :: ρ2) (some (.ref Da) :: L2.wipe σ vs) ∧ ys ++ zs = ys0 ++ zs0 ∧ lcL vs t tt te (ds.drop i) ρ2 = .ok zs ρe,
    ⟨ds.length, by simp, Nat.zero_le _, F0, wipeR ρ0 vs, ys0, zs0, Le.refl _, S.wipe1 hv, rfl, el0⟩, ?_⟩
  rintro i n H2 ⟨rfl, hi, F2, ρ2, ys, zs, l2, S2, hyz, el⟩
  by_cases hlt : i < ds.length
  · have ed : ds.drop i = ds[i] :: ds.drop (i + 1) := List.drop_eq_getElem_cons hlt
    rw [ed] at el
    unfold lcL at el
    refine .inr ⟨wl.go F2 H2 i l2 S2.fH hlt, fun H' => ∃ F3 ρ2 ys zs, Le F0 F3 ∧ Sim K (.lst .fz :: ω) F3 G H' (some (.lst ys) :: ρ2) (some (.ref Da) :: L2.wipe σ vs) ∧ ys ++ zs = ys0 ++ zs0 ∧ lcL vs t tt te (ds.drop (i + 1)) ρ2 = .ok zs ρe,
      fun H' z => ⟨ds.length - (i + 1), by omega, rfl, hlt, z⟩, fun x H3 y => ?_⟩
    obtain ⟨F3, gr, rd⟩ := wl.yld F2 H2 i x H3 ds[i] l2 S2.fH (by simp [hlt]) y
    obtain ⟨G', S3, back⟩ := (S2.gr gr).hide
    cases et : t ds[i] ρ2 with
    | none => rw [et] at el; cases el
    | some ρ4 =>
      rw [et] at el
      dsimp only at el
      refine ⟨F3, G', ρ2, _, ρ4, rd, S3, et, fun σ4 F4 H4 tc l4 S4 => ?_⟩
      have wσ : L2.wipe σ4 vs = L2.wipe σ vs := by rw [tc.wipe]; exact (Tch.wipe (vs := vs) (σ := σ) ⟨wipe_length σ vs, fun j hj => wipe_out hj⟩)
      refine ⟨wσ, F4, G', ρ4, S4, ?_⟩
      cases eb : tt ρ4 with
      | ok k ρ5 =>
        rw [eb] at el
        refine fun F5 H5 l5 S5 => ?_
        cases k with
        | true =>
          dsimp only at el
          rw [if_pos rfl]
          refine ⟨F5, G', ρ5, S5, ?_⟩
          cases ee : te ρ5 with
          | ok yd ρ6 =>
            rw [ee] at el
            dsimp only at el
            refine fun v F6 H6 l6 S6 => ?_
            obtain ⟨rv, S7⟩ := S6.top
            have l36 : Le F3 F6 := l4.trans (l5.trans l6)
            have S8 := back l36 S7
            obtain ⟨aD, acc, eD, hD, ra, up⟩ := S8.lst (i := 0) (s := .lst .fz) rfl rfl rfl
            have : aD = Da := by
              have q : (some (V.ref Da) :: σ4)[0]? = some (some (V.ref Da)) := rfl
              rw [q] at eD
              cases eD; rfl
            subst this
            cases er : lcL vs t tt te (ds.drop (i + 1)) (wipeR ρ6 vs) with
            | ok zs' ρ7 =>
              rw [er] at el
              cases el
              have hlen : acc.length < sizeLine := by
                rw [ra.length]
                have := congrArg List.length hyz
                rw [List.length_append, List.length_append, List.length_cons] at this
                omega
              refine ⟨acc, hD, hlen, F6, wipeR ρ6 vs, ys ++ [yd], zs', l2.trans (gr.lf.trans l36), ?_, by rw [← hyz]; simp, er⟩
              have S9 : Sim K (.lst .fz :: ω) F6 G (upd H6 aD (.lst (acc ++ [v]))) (some (.lst (ys ++ [yd])) :: ρ6) (some (.ref aD) :: σ4) := up F6 H6 (acc ++ [v]) (ys ++ [yd]) (Gr.refl S7.fH) (ra.append (.cons rv .nil))
              rw [← wσ]
              exact S9.wipe1 hv
            | exc x ρ7 => rw [er] at el; cases el
            | no => rw [er] at el; cases el
          | exc x ρ6 => rw [ee] at el; cases el
          | no => rw [ee] at el; cases el
        | false =>
          dsimp only at el
          rw [if_neg Bool.false_ne_true]
          have l35 : Le F3 F5 := l4.trans l5
          have S8 := back l35 S5
          refine ⟨F5, wipeR ρ5 vs, ys, zs, l2.trans (gr.lf.trans l35), ?_, hyz, el⟩
          rw [← wσ]
          exact S8.wipe1 hv
      | exc x ρ5 => rw [eb] at el; cases el
      | no => rw [eb] at el; cases el
  · have e : i = ds.length := by omega
    subst e
    rw [List.drop_length] at el
    have el : Res.ok [] ρ2 = Res.ok zs ρe := el
    cases el
    rw [List.append_nil] at hyz
    refine .inl ⟨wl.stop F2 H2 l2 S2.fH, fin F2 H2 l2 ?_⟩
    rw [← hyz]; exact S2
/-- two clauses -/
def lcB (vs vs1 : List Nat) (t : Tg) (tt : M Bool) (mi : M (List D)) (t1 : Tg) (tt1 : M Bool) (te : M D) : List D → M (List D)
  | [] => pureM []
  | d :: ds => fun ρ => match t d ρ with
    | none => .no
    | some ρ1 => match tt ρ1 with
      | .ok true ρ2 => (match mi ρ2 with
        | .ok ds1 ρ3 => (match lcL vs1 t1 tt1 te ds1 (wipeR ρ3 vs1) with
          | .ok zs ρ4 => (match lcB vs vs1 t tt mi t1 tt1 te ds (wipeR ρ4 vs) with
            | .ok ys ρ5 => .ok (zs ++ ys) ρ5
            | _ => .no)
          | _ => .no)
        | _ => .no)
      | .ok false ρ2 => lcB vs vs1 t tt mi t1 tt1 te ds (wipeR ρ2 vs)
      | _ => .no
def lcM2 (vs vs1 : List Nat) (ms : M (List D)) (t : Tg) (tt : M Bool) (mi : M (List D)) (t1 : Tg) (tt1 : M Bool) (te : M D) : M D := bindM ms fun ds ρ => match lcB vs vs1 t tt mi t1 tt1 te ds (wipeR ρ vs) with
  | .ok ys ρ' => if ys.length ≤ sizeLine then .ok (.lst ys) (restR ρ ρ' vs) else .no
  | _ => .no
theorem wipe_wipe (σ : L2.St) {vs vs1 : List Nat} (h : ∀ i ∈ vs1, i ∈ vs) : L2.wipe (L2.wipe σ vs1) vs = L2.wipe σ vs :=
  Tch.wipe (vs := vs) (σ := σ) ⟨wipe_length σ vs1, fun j hj => wipe_out fun z => hj (h j z)⟩
section
variable {X : Cx} {W : WX} {C : Sx} {ω : List Sh} {pos : Pos} {a b c e : Expr} {m m1 m2 m3 : M D} {sh : Sh}
theorem tlc2 {ms mi : M (List D)} {t t1 : Tg} {tt tt1 : M Bool} {te : M D} {vs vs1 : List Nat} (hv : ∀ i ∈ vs, ω[i]? = some .fz) (hv1 : ∀ i ∈ vs1, i ∈ vs) {σ : L2.St} {H : Hp} {Q : VK} (h : tM X.K X.mg W ω (.lst .fz) (lcM2 vs vs1 ms t tt mi t1 tt1 te) σ H Q) :
    tLc2 (tI X.K X.mg W ω ms) (tGD X.K ω vs t) (tT X.K X.mg W0 ω tt) (tI X.K X.mg W0 ω mi) (tGD X.K ω vs1 t1) (tT X.K X.mg W0 ω tt1) (tM X.K X.mg W0 ω .fz te) vs vs1 σ H Q := by
  have hw1 : ∀ i ∈ vs1, ω[i]? = some .fz := fun i hi => hv i (hv1 i hi)
  obtain ⟨F, G, ρ, S, q⟩ := h
  refine ⟨F, G, ρ, S, Res.sat_mono (Res.sat_bind q) (fun ds ρ1 p J F1 H1 l S1 wl D nD => ?_) fun _ _ z => z⟩
  cases el0 : lcB vs vs1 t tt mi t1 tt1 te ds (wipeR ρ1 vs) with
  | exc x ρ2 => rw [el0] at p; exact p.elim
  | no => rw [el0] at p; exact p.elim
  | ok tot ρe =>
    rw [el0] at p
    dsimp only at p
    by_cases hz : tot.length ≤ sizeLine
    · rw [if_pos hz] at p
      have SD : Sim X.K (.lst .fz :: ω) F1 G (upd H1 D (.lst [])) (some (.lst []) :: ρ1) (some (.ref D) :: σ) := S1.newO nD .nil
      refine ⟨fun i n H2 => n = ds.length - i ∧ i ≤ ds.length ∧ ∃ F2 ρ2 ys zs, Le F1 F2 ∧ Sim X.K (.lst .fz :: ω) F2 G H2 (some (.lst ys) :: ρ2) (some (.ref D) :: L2.wipe σ vs) ∧ ys ++ zs = tot ∧ lcB vs vs1 t tt mi t1 tt1 te (ds.drop i) ρ2 = .ok zs ρe,
        ⟨ds.length, by simp, Nat.zero_le _, F1, wipeR ρ1 vs, [], tot, Le.refl _, SD.wipe1 hv, rfl, el0⟩, ?_⟩
      rintro i n H2 ⟨rfl, hi, F2, ρ2, ys, zs, l2, S2, hyz, el⟩
      by_cases hlt : i < ds.length
      · have ed : ds.drop i = ds[i] :: ds.drop (i + 1) := List.drop_eq_getElem_cons hlt
        rw [ed] at el
        unfold lcB at el
        refine .inr ⟨wl.go F2 H2 i l2 S2.fH hlt, fun H' => ∃ F3 ρ2 ys zs, Le F1 F3 ∧ Sim X.K (.lst .fz :: ω) F3 G H' (some (.lst ys) :: ρ2) (some (.ref D) :: L2.wipe σ vs) ∧ ys ++ zs = tot ∧ lcB vs vs1 t tt mi t1 tt1 te (ds.drop (i + 1)) ρ2 = .ok zs ρe,
          fun H' z => ⟨ds.length - (i + 1), by omega, rfl, hlt, z⟩, fun x H3 y => ?_⟩
        obtain ⟨F3, gr, rd⟩ := wl.yld F2 H2 i x H3 ds[i] l2 S2.fH (by simp [hlt]) y
        obtain ⟨G', S3, back⟩ := (S2.gr gr).hide
        cases et : t ds[i] ρ2 with
        | none => rw [et] at el; cases el
        | some ρ4 =>
          rw [et] at el
          dsimp only at el
          refine ⟨F3, G', ρ2, _, ρ4, rd, S3, et, fun σ4 F4 H4 tc l4 S4 => ?_⟩
          have wσ : L2.wipe σ4 vs = L2.wipe σ vs := by rw [tc.wipe]; exact (Tch.wipe (vs := vs) (σ := σ) ⟨wipe_length σ vs, fun j hj => wipe_out hj⟩)
          refine ⟨wσ, F4, G', ρ4, S4, ?_⟩
          cases eb : tt ρ4 with
          | ok k ρ5 =>
            rw [eb] at el
            refine fun F5 H5 l5 S5 => ?_
            cases k with
            | true =>
              dsimp only at el
              rw [if_pos rfl]
              refine ⟨F5, G', ρ5, S5, ?_⟩
              cases ei : mi ρ5 with
              | ok ds1 ρ6 =>
                rw [ei] at el
                dsimp only at el
                refine fun J1 F6 H6 l6 S6 wl1 => ?_
                have l36 : Le F3 F6 := l4.trans (l5.trans l6)
                have S8 := back l36 S6
                cases ez : lcL vs1 t1 tt1 te ds1 (wipeR ρ6 vs1) with
                | ok zs1 ρ7 =>
                  rw [ez] at el
                  dsimp only at el
                  cases er : lcB vs vs1 t tt mi t1 tt1 te (ds.drop (i + 1)) (wipeR ρ7 vs) with
                  | ok zs2 ρ8 =>
                    rw [er] at el
                    cases el
                    have hlen : ys.length + zs1.length ≤ sizeLine := by
                      have := congrArg List.length hyz
                      rw [List.length_append, List.length_append] at this
                      omega
                    refine lc_inner (mg := X.mg) hw1 S8 wl1 ez hlen _ fun F' H' l' S' => ?_
                    refine ⟨F', wipeR ρ7 vs, ys ++ zs1, zs2, l2.trans (gr.lf.trans (l36.trans l')), ?_, by rw [← hyz, List.append_assoc], er⟩
                    have S9 := S'.wipe1 hv
                    rw [wipe_wipe σ4 hv1, wσ] at S9
                    exact S9
                  | exc x ρ8 => rw [er] at el; cases el
                  | no => rw [er] at el; cases el
                | exc x ρ7 => rw [ez] at el; cases el
                | no => rw [ez] at el; cases el
              | exc x ρ6 => rw [ei] at el; cases el
              | no => rw [ei] at el; cases el
            | false =>
              dsimp only at el
              rw [if_neg Bool.false_ne_true]
              have l35 : Le F3 F5 := l4.trans l5
              have S8 := back l35 S5
              refine ⟨F5, wipeR ρ5 vs, ys, zs, l2.trans (gr.lf.trans l35), ?_, hyz, el⟩
              rw [← wσ]
              exact S8.wipe1 hv
          | exc x ρ5 => rw [eb] at el; cases el
          | no => rw [eb] at el; cases el
      · have e : i = ds.length := by omega
        subst e
        rw [List.drop_length] at el
        have el : Res.ok [] ρ2 = Res.ok zs ρe := el
        cases el
        rw [List.append_nil] at hyz
        subst hyz
        refine .inl ⟨wl.stop F2 H2 l2 S2.fH, p _ F2 H2 (l.trans l2) ?_⟩
        obtain ⟨G', S3, back⟩ := S2.hide
        have S4 := S1.rest l2 S3 hv
        rw [restS_wipe] at S4
        exact back (Le.refl _) S4
    · rw [if_neg hz] at p; exact p.elim
theorem de_lc2 {elt tg iter tg1 iter1 : Expr} {ifs ifs1 : List Expr} {scope : Scope} {own : List (Str × Nat)} {vs1 : List Nat} {ms mi : M (List D)} {t t1 : Tg} {tt tt1 : M Bool} {te : M D} (hc : X.calm = true) (hN : X.N.Nodup) (hv : ∀ i ∈ own.map (·.2), ω[i]? = some .fz) (hi : DI X W ω tg iter ms) (ok : BlkOk X.N X.env.scope scope own) (hv1 : ∀ i ∈ vs1, i ∈ own.map (·.2))
    (hg : ∀ (s : Shared) (H : Hp) (C : Addr) (cl : List (Str × Addr)) (fp : List Addr), DG (X.blk s H scope (compEnvC scope cl C X.env) fp) ω (own.map (·.2)) tg t)
    (ht : ∀ (s : Shared) (H : Hp) (C : Addr) (cl : List (Str × Addr)) (fp : List Addr), DTs (X.blk s H scope (compEnvC scope cl C X.env) fp) W0 ω ifs tt)
    (hi1 : ∀ (s : Shared) (H : Hp) (C : Addr) (cl : List (Str × Addr)) (fp : List Addr), DI (X.blk s H scope (compEnvC scope cl C X.env) fp) W0 ω tg1 iter1 mi)
    (hg1 : ∀ (s : Shared) (H : Hp) (C : Addr) (cl : List (Str × Addr)) (fp : List Addr), DG (X.blk s H scope (compEnvC scope cl C X.env) fp) ω vs1 tg1 t1)
    (ht1 : ∀ (s : Shared) (H : Hp) (C : Addr) (cl : List (Str × Addr)) (fp : List Addr), DTs (X.blk s H scope (compEnvC scope cl C X.env) fp) W0 ω ifs1 tt1)
    (he : ∀ (s : Shared) (H : Hp) (C : Addr) (cl : List (Str × Addr)) (fp : List Addr), DE (X.blk s H scope (compEnvC scope cl C X.env) fp) W0 ω elt .fz te) (hs : ∀ x, foldedSetIterable iter X.env x = pure x := by intro _; rfl) (hs1 : ∀ (E : Env) x, foldedSetIterable iter1 E x = pure x := by intro _ _; rfl) :
    DE X W ω (.ListComp elt [⟨tg, iter, ifs, 0⟩, ⟨tg1, iter1, ifs1, 0⟩] scope pos) (.lst .fz) (lcM2 (own.map (·.2)) vs1 ms t tt mi t1 tt1 te) :=
  PE.imp (pe_lc2 hc hN hi ok hv1 hg ht hi1 hg1 ht1 he hs hs1) fun σ H Q q => tlc2 hv hv1 q
theorem ds_setLc2 {i : Nat} {y : Str} {py spos : Pos} {elt tg iter tg1 iter1 : Expr} {ifs ifs1 : List Expr} {scope : Scope} {own : List (Str × Nat)} {vs1 : List Nat} {ms mi : M (List D)} {t t1 : Tg} {tt tt1 : M Bool} {te : M D} (wk : Wk ω C.ωe) (hc : X.calm = true) (hN : X.N.Nodup) (hy : X.N[i]? = some y)
    (hyl : X.env.scope.names.lookup y = some .local) (hsw : swapsWith (.ListComp elt [⟨tg, iter, ifs, 0⟩, ⟨tg1, iter1, ifs1, 0⟩] scope pos) (some (.Name y py)) spos.line X.env = pure true)
    (hv : ∀ i ∈ own.map (·.2), ω[i]? = some .fz) (hi : DI X C.W ω tg iter ms) (ok : BlkOk X.N X.env.scope scope own) (hv1 : ∀ i ∈ vs1, i ∈ own.map (·.2))
    (hg : ∀ (s : Shared) (H : Hp) (C : Addr) (cl : List (Str × Addr)) (fp : List Addr), DG (X.blk s H scope (compEnvC scope cl C X.env) fp) ω (own.map (·.2)) tg t)
    (ht : ∀ (s : Shared) (H : Hp) (C : Addr) (cl : List (Str × Addr)) (fp : List Addr), DTs (X.blk s H scope (compEnvC scope cl C X.env) fp) W0 ω ifs tt)
    (hi1 : ∀ (s : Shared) (H : Hp) (C : Addr) (cl : List (Str × Addr)) (fp : List Addr), DI (X.blk s H scope (compEnvC scope cl C X.env) fp) W0 ω tg1 iter1 mi)
    (hg1 : ∀ (s : Shared) (H : Hp) (C : Addr) (cl : List (Str × Addr)) (fp : List Addr), DG (X.blk s H scope (compEnvC scope cl C X.env) fp) ω vs1 tg1 t1)
    (ht1 : ∀ (s : Shared) (H : Hp) (C : Addr) (cl : List (Str × Addr)) (fp : List Addr), DTs (X.blk s H scope (compEnvC scope cl C X.env) fp) W0 ω ifs1 tt1)
    (he : ∀ (s : Shared) (H : Hp) (C : Addr) (cl : List (Str × Addr)) (fp : List Addr), DE (X.blk s H scope (compEnvC scope cl C X.env) fp) W0 ω elt .fz te) (hs : ∀ x, foldedSetIterable iter X.env x = pure x := by intro _; rfl) (hs1 : ∀ (E : Env) x, foldedSetIterable iter1 E x = pure x := by intro _ _; rfl) :
    DS X C ω (.Assign [.Name y py] (.ListComp elt [⟨tg, iter, ifs, 0⟩, ⟨tg1, iter1, ifs1, 0⟩] scope pos) spos) (ω.set i (.lst .fz)) (setM i (lcM2 (own.map (·.2)) vs1 ms t tt mi t1 tt1 te)) :=
  PS.imp (ps_setLc2 hc hN hy hyl hsw hi ok hv1 hg ht hi1 hg1 ht1 he hs hs1) fun D σ H q => by
    obtain ⟨F, q⟩ := tS_bind (sh := .lst .fz) wk q
    exact tlc2 hv hv1 ⟨F, tMF_mono q fun x H1 ⟨d, F1, G, ρ1, S, z⟩ => z _ F1 H1 (Le.refl _) (S.set i)⟩
end
end DL
/-! DL: texts joined, in of any kind, least and greatest, sums, sorted, enumerate, zip, texts walked. -/
namespace DL
open PySem PySem.Spec PyProof.Rows L2
section
variable {X : Cx} {W : WX} {C : Sx} {ω : List Sh} {pos : Pos} {a b c e : Expr} {m m1 m2 m3 : M D} {sh : Sh}
def strsD : List D → Option (List Str)
  | [] => some []
  | .str x :: ds => (strsD ds).map (x :: ·)
  | _ => none
theorem strsD.ok {K : Fg} {F : Hp} : ∀ {ds : List D} {vs : List V} {xs : List Str}, RDs K F vs ds → strsD ds = some xs → vs = xs.map V.str
  | [], _, _, .nil, e => by cases e; rfl
  | d :: ds, _, xs, .cons r rs, e => by
    cases r with
    | str x =>
      unfold strsD at e
      obtain ⟨ys, e1, rfl⟩ := Option.map_eq_some_iff.mp e
      rw [strsD.ok rs e1]; rfl
    | _ => cases e
def intsD : List D → Option (List Int)
  | [] => some []
  | .int x :: ds => (intsD ds).map (x :: ·)
  | _ => none
theorem intsD.ok {K : Fg} {F : Hp} : ∀ {ds : List D} {vs : List V} {xs : List Int}, RDs K F vs ds → intsD ds = some xs → vs = xs.map V.int
  | [], _, _, .nil, e => by cases e; rfl
  | d :: ds, _, xs, .cons r rs, e => by
    cases r with
    | int x =>
      unfold intsD at e
      obtain ⟨ys, e1, rfl⟩ := Option.map_eq_some_iff.mp e
      rw [intsD.ok rs e1]; rfl
    | _ => cases e
theorem RDs.ints {K : Fg} {F : Hp} : ∀ ns : List Int, RDs K F (ns.map V.int) (ns.map D.int)
  | [] => .nil
  | n :: ns => .cons (.int n) (RDs.ints ns)
theorem RDs.strs {K : Fg} {F : Hp} : ∀ ns : List Str, RDs K F (ns.map V.str) (ns.map D.str)
  | [] => .nil
  | n :: ns => .cons (.str n) (RDs.strs ns)
/-! ### join -/
def gJoin (a : Str) (d : D) : Option D := match seqD d with
  | some ds => (match strsD ds with
    | some ys => if (ys.map (·.length)).sum + ys.length * a.length ≤ 16777216 then some (.str (Txt.join a ys)) else none
    | none => none)
  | none => none
def joinM (m1 m2 : M D) : M D := bindM m1 fun d => match d with
  | .str x => bindM m2 fun l => liftO (gJoin x l)
  | _ => failM
theorem de_join {apos : Pos} (ho : DE X W ω a .fz m1) (he : DE X W ω e .fz m2) (hs : starEach [e] X.env = [(false, eval e X.env)] := by rfl) (hbase : attributeBase a "join" X.env (eval a X.env) = eval a X.env := by rfl) (hline : (apos.endLine == pos.line) = true := by rfl) :
    DE X W ω (.Call (.Attribute a "join" apos) [e] [] pos) .fz (joinM m1 m2) :=
  PE.imp (pe_join ho he hs hbase hline) fun σ H Q q => by
    obtain ⟨F, q⟩ := tM_bind q
    refine ⟨F, tMF_mono q fun x H1 ⟨d1, F1, r1, q1⟩ => ?_⟩
    cases r1 with
    | str z =>
      refine ⟨⟨z, rfl⟩, F1, tMF_mono (tMF_bind q1) fun y H2 ⟨d2, F2, l2, r2, q2⟩ => ?_⟩
      obtain ⟨l, r, e, k⟩ := tMF_lift q2
      unfold gJoin at e
      split at e
      · rename_i ds es
        split at e
        · rename_i ys ey
          split at e
          · rename_i hz
            cases e
            unfold seqD at es
            cases r2 with
            | lst h rs => cases es; exact ⟨z, _, ys, rfl, rfl, .inl (by rw [← strsD.ok rs ey]; exact SqL.of (l _ _ h)), hz, k _ F2 H2 (Gr.refl l) (.str _)⟩
            | scr h rs => cases es; exact ⟨z, _, ys, rfl, rfl, .inl (by rw [← strsD.ok rs ey]; exact SqL.mono l h), hz, k _ F2 H2 (Gr.refl l) (.str _)⟩
            | tup h rs => cases es; exact ⟨z, _, ys, rfl, rfl, .inr (by rw [← strsD.ok rs ey]; exact SqT.of (l _ _ h)), hz, k _ F2 H2 (Gr.refl l) (.str _)⟩
            | ktup h rs => cases es; exact ⟨z, _, ys, rfl, rfl, .inr (by rw [← strsD.ok rs ey]; exact SqT.mono l h), hz, k _ F2 H2 (Gr.refl l) (.str _)⟩
            | _ => cases es
          · cases e
        · cases e
      · cases e
    | _ => obtain ⟨_, _, _, q1⟩ := q1; exact q1.elim
/-! ### in, of any kind -/
def gInS (x y : D) : Option D := match x, y with
  | .str z, .str w => (match z.cps.toList with
    | [c] => some (.bl (decide (c ∈ w.cps.toList)))
    | _ => none)
  | _, _ => none
theorem sign_of {z : Str} {c : Nat} (h : z.cps.toList = [c]) : z = ⟨#[c]⟩ := by
  obtain ⟨a⟩ := z
  simp only at h
  congr 1
  apply Array.toList_inj.mp
  rw [h]
theorem od_inS : OpD X (compareOp .In) gInS := fun F d1 d2 r e => by
  unfold gInS at e
  split at e
  · rename_i z w
    split at e
    · rename_i c hz
      cases e
      refine OpR.imp op_in_sign fun x y H Q ⟨l, r1, r2, q⟩ => ?_
      cases r1; cases r2
      exact ⟨c, w, by rw [sign_of hz], rfl, q _ F H (Gr.refl l) (.bl _)⟩
    · cases e
  · cases e
/-- two readings of one operator -/
def gAlt (g g' : D → D → Option D) (x y : D) : Option D := match g x y with
  | some r => some r
  | none => g' x y
theorem OpD.alt {f : Value → Value → Sem Value} {g g' : D → D → Option D} (h : OpD X f g) (h' : OpD X f g') : OpD X f (gAlt g g') := fun F d1 d2 r e => by
  unfold gAlt at e
  cases q : g d1 d2 with
  | some r' => rw [q] at e; cases e; exact h F d1 d2 r q
  | none => rw [q] at e; exact h' F d1 d2 r e
abbrev gInA := gAlt gIn (gAlt gInS gDin)
abbrev gNinA := gAlt gNotIn gDnin
theorem od_inA (hu : X.A.units + 65 < cLine) : OpD X (compareOp .In) gInA := (od_in hu).alt (od_inS.alt (od_din (by omega)))
theorem od_ninA (hu : X.A.units + 65 < cLine) : OpD X (compareOp .NotIn) gNinA := (od_notIn hu).alt (od_dnin (by omega))
/-! ### least, greatest, sums -/
def gMax2 : List D → Option D
  | [.int i, .int j] => some (.int (if j > i then j else i))
  | [.lst ds] => (intsD ds).bind fun ns => ns.max?.map .int
  | _ => none
def gMin2 : List D → Option D
  | [.int i, .int j] => some (.int (if j < i then j else i))
  | [.lst ds] => (intsD ds).bind fun ns => ns.min?.map .int
  | _ => none
theorem cd_max (hc : X.calm = true) : CallD X (.builtin "max") gMax2 := fun F ds r e => by
  unfold gMax2 at e
  split at e
  · cases e
    refine CallR.imp (call_max2 hc) fun xs H Q ⟨l, rs, q⟩ => ?_
    cases rs with | cons r1 rs => cases rs with | cons r2 rs => cases rs; cases r1; cases r2; exact ⟨_, _, rfl, q _ F H (Gr.refl l) (.int _)⟩
  · obtain ⟨ns, en, e2⟩ := Option.bind_eq_some_iff.mp e
    obtain ⟨k, ek, rfl⟩ := Option.map_eq_some_iff.mp e2
    obtain ⟨hm1, hm2⟩ := List.max?_eq_some_iff.mp ek
    refine CallR.imp (cr_max hc) fun xs H Q ⟨l, rs, q⟩ => ?_
    cases rs with | cons r1 rs => cases rs; cases r1 with | lst h s =>
      refine ⟨_, ns, rfl, SqL.of (by rw [← intsD.ok s en]; exact l _ _ h), List.length_pos_of_mem hm1, fun m hm hy => ?_⟩
      have : m = k := Int.le_antisymm (hm2 m hm) (hy k hm1)
      subst this
      exact q _ F H (Gr.refl l) (.int _)
  · cases e
theorem cd_min (hc : X.calm = true) : CallD X (.builtin "min") gMin2 := fun F ds r e => by
  unfold gMin2 at e
  split at e
  · cases e
    refine CallR.imp (call_min2 hc) fun xs H Q ⟨l, rs, q⟩ => ?_
    cases rs with | cons r1 rs => cases rs with | cons r2 rs => cases rs; cases r1; cases r2; exact ⟨_, _, rfl, q _ F H (Gr.refl l) (.int _)⟩
  · obtain ⟨ns, en, e2⟩ := Option.bind_eq_some_iff.mp e
    obtain ⟨k, ek, rfl⟩ := Option.map_eq_some_iff.mp e2
    obtain ⟨hm1, hm2⟩ := List.min?_eq_some_iff.mp ek
    refine CallR.imp (cr_min hc) fun xs H Q ⟨l, rs, q⟩ => ?_
    cases rs with | cons r1 rs => cases rs; cases r1 with | lst h s =>
      refine ⟨_, ns, rfl, SqL.of (by rw [← intsD.ok s en]; exact l _ _ h), List.length_pos_of_mem hm1, fun m hm hy => ?_⟩
      have : m = k := Int.le_antisymm (hy k hm1) (hm2 m hm)
      subst this
      exact q _ F H (Gr.refl l) (.int _)
  · cases e
def gSum : List D → Option D
  | [.lst ds] => (intsD ds).map fun ns => .int ns.sum
  | _ => none
theorem cd_sum (hc : X.calm = true) : CallD X (.builtin "sum") gSum := fun F ds r e => by
  unfold gSum at e
  split at e
  · obtain ⟨ns, en, rfl⟩ := Option.map_eq_some_iff.mp e
    refine CallR.imp (cr_sum hc) fun xs H Q ⟨l, rs, q⟩ => ?_
    cases rs with | cons r1 rs => cases rs; cases r1 with | lst h s => exact ⟨_, ns, rfl, SqL.of (by rw [← intsD.ok s en]; exact l _ _ h), q _ F H (Gr.refl l) (.int _)⟩
  · cases e
/-- whole numbers, ascending -/
def sortI (ns : List Int) : List Int := ns.mergeSort
theorem sortI_one {ns ns' : List Int} (p : ns'.Perm ns) (s : ns'.Pairwise (· ≤ ·)) : ns' = sortI ns := by
  have p2 : (sortI ns).Perm ns := List.mergeSort_perm ns _
  have s2 : (sortI ns).Pairwise (· ≤ ·) := by
    have := List.pairwise_mergeSort (le := fun a b : Int => decide (a ≤ b)) (fun a b c h1 h2 => decide_eq_true (Int.le_trans (of_decide_eq_true h1) (of_decide_eq_true h2))) (fun a b => by
      rcases Int.le_total a b with h | h <;> simp [h]) ns
    exact this.imp fun h => of_decide_eq_true h
  exact List.Perm.eq_of_pairwise (fun a b _ _ h1 h2 => Int.le_antisymm h1 h2) s s2 (p.trans p2.symm)
def gSortI : List D → Option D
  | [.lst ds] => (intsD ds).map fun ns => .lst ((sortI ns).map .int)
  | _ => none
theorem cd_sortI : CallD X (.builtin "sorted") gSortI := fun F ds r e => by
  unfold gSortI at e
  split at e
  · obtain ⟨ns, en, rfl⟩ := Option.map_eq_some_iff.mp e
    refine CallR.imp cr_sortedI fun xs H Q ⟨l, rs, q⟩ => ?_
    cases rs with | cons r1 rs => cases rs; cases r1 with | lst h s =>
      refine ⟨_, ns, rfl, SqL.of (by rw [← intsD.ok s en]; exact l _ _ h), fun ns' p hp hs np => ?_⟩
      rw [sortI_one hp hs]
      exact q _ _ _ (Gr.one l np) (.lst upd_same (RDs.ints _))
  · cases e
/-! ### texts walked -/
def signs (z : Str) : List D := z.cps.toList.map fun c => .str ⟨#[c]⟩
theorem walks_str {K : Fg} {F : Hp} (z : Str) : Walks K F (Its z) (signs z) where
  go F' H i l l2 hi := by unfold signs at hi; rw [List.length_map, Array.length_toList] at hi; exact hi
  yld F' H i x H' d l l2 e y := by
    obtain ⟨rfl, c, hc, rfl⟩ := y
    unfold signs at e
    rw [List.getElem?_map, Array.getElem?_toList, hc] at e
    cases e
    exact ⟨F', Gr.refl l2, .str _⟩
  stop F' H l l2 := by unfold signs; rw [List.length_map, Array.length_toList]; exact Nat.le_refl _
def strD : D → Option (List D)
  | .str z => some (signs z)
  | _ => none
theorem di_str {tg l : Expr} (h : DE X W ω l .fz m) : DI X W ω tg l (bindM m fun d => liftO (strD d)) :=
  PI.imp (pi_str h) fun σ H R ⟨F, G, ρ, S, q⟩ => by
    refine ⟨F, G, ρ, S, Res.sat_mono (Res.sat_bind q) (fun d ρ1 p v F1 H1 l S1 => ?_) fun _ _ z => z⟩
    obtain ⟨r, S2⟩ := S1.top
    cases r with
    | str z => exact ⟨z, rfl, p _ F1 H1 l S2 (walks_str z)⟩
    | _ => exact p.elim
/-! ### enumerate, zip -/
def numD (ds : List D) : List D := ds.zipIdx.map fun p => .tup [.int p.2, p.1]
theorem numD_get {ds : List D} {i : Nat} : (numD ds)[i]? = ds[i]?.map fun d => D.tup [.int i, d] := by
  unfold numD
  rw [List.getElem?_map, List.getElem?_zipIdx, Option.map_map]
  simp only [Nat.zero_add]; rfl
theorem walks_enum {K : Fg} {F : Hp} {p : Addr} {xs : List V} {ds : List D} (h : SqL K F p xs) (r : RDs K F xs ds) : Walks K F (Ite K p) (numD ds) where
  go F' H i l l2 hi := by
    have hl : (numD ds).length = ds.length := by simp [numD]
    have hx : i < xs.length := by rw [r.length, ← hl]; exact hi
    exact ⟨xs, xs[i], SqL.mono (l.trans l2) h, by simp [hx]⟩
  yld F' H i x H' d l l2 e y := by
    obtain ⟨T, z, rfl, nT, rfl, y⟩ := y
    rw [numD_get] at e
    obtain ⟨d0, ed, rfl⟩ := Option.map_eq_some_iff.mp e
    obtain ⟨v, ev, rv⟩ := r.get ed
    have := y xs (SqL.mono (l.trans l2) h)
    rw [ev] at this
    cases this
    have g := Gr.one (o := .tup [.int (i : Nat), z]) l2 nT
    exact ⟨_, g, .tup upd_same (.cons (.int _) (.cons (rv.mono (l.trans g.lf)) .nil))⟩
  stop F' H l l2 := ⟨xs, SqL.mono (l.trans l2) h, by
    have hl : (numD ds).length = ds.length := by simp [numD]
    rw [hl, r.length]; exact Nat.le_refl _⟩
def lstD1 : List D → Option (List D)
  | [.lst xs] => some (numD xs)
  | [.scr xs] => some (numD xs)
  | _ => none
theorem di_enum {elts : List Expr} {kk : Nat} {tpos p : Pos} {ms : M (List D)} (hg : Gl X "enumerate") (hm : X.mg "enumerate" = none) (ha : DA X W ω [e] ms) (hs : starEach [e] X.env = [(false, eval e X.env)] := by rfl) :
    DI X W ω (.Tuple elts kk tpos) (.Call (.Name "enumerate" p) [e] [] pos) (ofArgs lstD1 ms) :=
  PI.imp (pi_enum hg hm ha hs) fun σ H R ⟨F, G, ρ, S, q⟩ => by
    refine ⟨F, G, ρ, S, Res.sat_mono (Res.sat_bind q) (fun ds ρ1 p vs F1 H1 l S1 rs => ?_) fun _ _ z => z⟩
    unfold lstD1 at p
    split at p
    · cases rs with | cons r rs => cases rs; cases r with | lst h s => exact ⟨_, _, rfl, SqL.of (S1.fH _ _ h), p _ F1 H1 l S1 (walks_enum (SqL.of h) s)⟩
    · cases rs with | cons r rs => cases rs; cases r with | scr h s => exact ⟨_, _, rfl, SqL.mono S1.fH h, p _ F1 H1 l S1 (walks_enum h s)⟩
    · exact p.elim
def zipD (xs ys : List D) : List D := (xs.zip ys).map fun p => .tup [p.1, p.2]
theorem walks_zip {K : Fg} {F : Hp} {p q : Addr} {xs ys : List V} {ds es : List D} (h : SqL K F p xs) (r : RDs K F xs ds) (h' : SqL K F q ys) (r' : RDs K F ys es) : Walks K F (Itz K p q) (zipD ds es) where
  go F' H i l l2 hi := by
    have hi : i < (zipD ds es).length := hi
    simp only [zipD, List.length_map, List.length_zip] at hi
    have hx : i < xs.length := by rw [r.length]; omega
    have hy : i < ys.length := by rw [r'.length]; omega
    exact ⟨xs, ys, xs[i], ys[i], SqL.mono (l.trans l2) h, SqL.mono (l.trans l2) h', by simp [hx], by simp [hy]⟩
  yld F' H i x H' d l l2 e y := by
    obtain ⟨T, z, w, rfl, nT, rfl, y1, y2⟩ := y
    unfold zipD at e
    rw [List.getElem?_map] at e
    obtain ⟨⟨d1, d2⟩, ed, rfl⟩ := Option.map_eq_some_iff.mp e
    obtain ⟨ed1, ed2⟩ := List.getElem?_zip_eq_some.mp ed
    obtain ⟨v1, ev1, rv1⟩ := r.get ed1
    obtain ⟨v2, ev2, rv2⟩ := r'.get ed2
    have q1 := y1 xs (SqL.mono (l.trans l2) h)
    have q2 := y2 ys (SqL.mono (l.trans l2) h')
    rw [ev1] at q1; cases q1
    rw [ev2] at q2; cases q2
    have g := Gr.one (o := .tup [z, w]) l2 nT
    exact ⟨_, g, .tup upd_same (.cons (rv1.mono (l.trans g.lf)) (.cons (rv2.mono (l.trans g.lf)) .nil))⟩
  stop F' H l l2 := ⟨xs, ys, SqL.mono (l.trans l2) h, SqL.mono (l.trans l2) h', by
    have hl : (zipD ds es).length = min ds.length es.length := by simp [zipD]
    rw [hl, r.length, r'.length]; omega⟩
def lstD2 : List D → Option (List D)
  | [.lst xs, .lst ys] => some (zipD xs ys)
  | _ => none
theorem di_zip {e2 : Expr} {elts : List Expr} {kk : Nat} {tpos p : Pos} {ms : M (List D)} (hg : Gl X "zip") (hm : X.mg "zip" = none) (ha : DA X W ω [e, e2] ms) (hs : starEach [e, e2] X.env = (false, eval e X.env) :: starEach [e2] X.env := by rfl) (hpl : (backTo pos (starEach [e2] X.env)).any (·.1) = false := by rfl) :
    DI X W ω (.Tuple elts kk tpos) (.Call (.Name "zip" p) [e, e2] [] pos) (ofArgs lstD2 ms) :=
  PI.imp (pi_zip hg hm ha hs hpl) fun σ H R ⟨F, G, ρ, S, q⟩ => by
    refine ⟨F, G, ρ, S, Res.sat_mono (Res.sat_bind q) (fun ds ρ1 p vs F1 H1 l S1 rs => ?_) fun _ _ z => z⟩
    unfold lstD2 at p
    split at p
    · cases rs with | cons r rs => cases rs with | cons r2 rs => cases rs; cases r with | lst h s => cases r2 with | lst h2 s2 => exact ⟨_, _, _, _, rfl, SqL.of (S1.fH _ _ h), SqL.of (S1.fH _ _ h2), p _ F1 H1 l S1 (walks_zip (SqL.of h) s (SqL.of h2) s2)⟩
    · exact p.elim
/-! ### str(i) -/
def gStr : List D → Option D
  | [.int i] => if i.natAbs.log2 < 1920 then some (.str (toString i)) else none
  | [.str x] => some (.str x)
  | _ => none
end
end DL
namespace DL
open PySem PySem.Spec PyProof.Rows L2
def repS (x : Str) (n : Nat) : Str := ⟨(List.replicate n x.cps).foldl (· ++ ·) #[]⟩
def gRepS : D → D → Option D
  | .str x, .int n => if 0 ≤ n ∧ n ≤ 1000000 ∧ x.length * n.toNat ≤ 1000000 then some (.str (repS x n.toNat)) else none
  | _, _ => none
theorem od_repS {X : Cx} : OpD X (binaryOp .Mult) gRepS := fun F d1 d2 r e pins s σ H x y v u Q I rx ry ⟨l, r1, r2, q⟩ => by
  unfold gRepS at e
  split at e
  · rename_i z n _
    split at e
    · rename_i hc
      cases e
      cases r1; cases r2
      obtain ⟨t, rfl⟩ := rx
      obtain ⟨t', rfl⟩ := ry
      obtain ⟨h0, h1, h2⟩ := hc
      have fin : ∀ (w : Str) (tk : Tok) (s' : Shared), w = repS z n.toNat → Inv X pins σ H s' → EP X pins σ Q (.str w tk) s' := fun w tk s' ew I' => ⟨.str w, H, I', ⟨tk, rfl⟩, by rw [ew]; exact q _ F H (Gr.refl l) (.str _)⟩
      refine P.mul_str (by rw [decide_eq_false (by omega), decide_eq_false (by omega)]; rfl) (fun hn _ => ?_) (fun hn _ => ?_) ?_
      · have h3 : (z.length : Int) * n ≤ 1000000 := by
          have : ((z.length * n.toNat : Nat) : Int) ≤ 1000000 := by omega
          rwa [Int.natCast_mul, Int.toNat_of_nonneg h0] at this
        have h4 : (z.length : Int) ≤ 1000000 := by
          have : (z.length : Int) * 1 ≤ (z.length : Int) * n := Int.mul_le_mul_of_nonneg_left (by omega) (by omega)
          omega
        have h5 : (2 ^ 63 - 1 : Int) / 1000000 ≤ (2 ^ 63 - 1) / n := by
          rw [Int.le_ediv_iff_mul_le (by omega)]
          have : (2 ^ 63 - 1 : Int) / 1000000 * n ≤ (2 ^ 63 - 1 : Int) / 1000000 * 1000000 := Int.mul_le_mul_of_nonneg_left h1 (by decide)
          exact Int.le_trans this (by decide)
        have h6 : (1000000 : Int) ≤ (2 ^ 63 - 1 : Int) / 1000000 := by decide
        omega
      · unfold Builtin.Str.tooLong
        exact decide_eq_false (by have : sizeLine = 16777216 := by decide
                                  omega)
      · by_cases hn : n < 1
        · rw [if_pos hn]
          have : n = 0 := by omega
          subst this
          exact ⟨by decide, fin _ _ _ rfl (I.tok _)⟩
        · rw [if_neg hn]
          by_cases hb : (n == 1 || z.length == 0) = true
          · rw [if_pos hb]
            refine fin _ _ _ ?_ I
            rw [Bool.or_eq_true] at hb
            rcases hb with hb | hb
            · have : n = 1 := eq_of_beq hb
              subst this
              obtain ⟨c⟩ := z
              simp [repS]
            · have hz : z.cps = #[] := Array.size_eq_zero_iff.mp (eq_of_beq hb)
              obtain ⟨c⟩ := z
              simp only at hz
              subst hz
              unfold repS
              congr 1
              generalize n.toNat = k
              induction k with
              | zero => rfl
              | succ k ih => rw [List.replicate_succ, List.foldl_cons]; exact ih
          · rw [if_neg hb]
            refine ⟨?_, fin _ _ _ rfl (I.tok _)⟩
            have key : ∀ (k : Nat) (acc : Array Nat), ((List.replicate k z.cps).foldl (· ++ ·) acc).size = acc.size + z.cps.size * k := by
              intro k
              induction k with
              | zero => intro acc; simp
              | succ k ih => intro acc; rw [List.replicate_succ, List.foldl_cons, ih, Array.size_append, Nat.mul_succ]; omega
            show ((List.replicate n.toNat z.cps).foldl (· ++ ·) #[]).size ≤ _
            rw [key]
            have : sizeLine = 16777216 := by decide
            have e2 : z.length = z.cps.size := rfl
            have e3 : (#[] : Array Nat).size = 0 := rfl
            rw [e2] at h2
            omega
    · cases e
  · cases e
end DL
namespace DL
open PySem PySem.Spec PyProof.Rows L2
section
variable {X : Cx} {W : WX} {ω : List Sh} {m : M D}
/-- a list, a tuple, a text -/
theorem pi_all {l tg : Expr} {tl : TE} (hl : PE X l tl) : PI X tg l (fun σ H R => tl σ H fun x H1 => (∃ p, x = .ref p ∧ (((∃ xs, SqL X.K H1 p xs) ∧ R (Itl X.K p) H1) ∨ ((∃ xs, SqT X.K H1 p xs) ∧ R (Itt X.K p) H1))) ∨ ∃ z, x = .str z ∧ R (Its z) H1) := by
  refine ⟨fun pins s σ H R I h => thn (hl.run pins s σ H _ I h) fun v s1 ⟨x, H1, I1, r1, q⟩ => ?_⟩
  rcases q with ⟨p, rfl, q⟩ | ⟨z, rfl, q⟩
  · cases r1
    rcases q with ⟨⟨xs, hq⟩, q⟩ | ⟨⟨xs, hq⟩, q⟩
    · obtain ⟨its, rv, pl, hz⟩ := I1.list hq
      refine wpAny_pyIter_list pl.isList ⟨_, [s1.heap.objs.size], _, _, H1, rfl, I1.kept (t' := s1.toks) fun b o e => Heap.get?_push_of_some _ e, turn_list p _, ⟨_, Heap.get?_push_size _ rfl, rfl, rfl⟩, fun b hb => ?_, q⟩
      cases List.mem_singleton.mp hb
      exact I1.fpOk (Nat.le_refl _) (I1.hok.fresh (Nat.le_refl _))
    · obtain ⟨its, rv, pl, hz⟩ := I1.tuple hq
      refine wpAny_pyIter_tuple (show s1.heap.IsTuple p its.toArray from pl) ⟨_, [s1.heap.objs.size], _, _, H1, rfl, I1.kept (t' := s1.toks) fun b o e => Heap.get?_push_of_some _ e, turn_tuple p _, ⟨_, Heap.get?_push_size _ rfl, rfl, rfl⟩, fun b hb => ?_, q⟩
      cases List.mem_singleton.mp hb
      exact I1.fpOk (Nat.le_refl _) (I1.hok.fresh (Nat.le_refl _))
  · obtain ⟨t, rfl⟩ := r1
    cases ha : z.cps.all (· < 128)
    · exact wpAny_pyIter_wide ha (pi_one (tk := s1.toks) I1 _ (turn_str _ z t "str_iterator" (.inr rfl)) ⟨_, Heap.get?_push_size _ rfl, rfl, rfl⟩ q)
    · exact wpAny_pyIter_ascii ha (pi_one (tk := s1.toks) I1 _ (turn_str _ z t "str_ascii_iterator" (.inl rfl)) ⟨_, Heap.get?_push_size _ rfl, rfl, rfl⟩ q)
def seqA : D → Option (List D)
  | .str z => some (signs z)
  | d => seqD d
def seqOfA (m : M D) : M (List D) := bindM m fun d => liftO (seqA d)
theorem di_all {tg l : Expr} (h : DE X W ω l .fz m) : DI X W ω tg l (seqOfA m) :=
  PI.imp (pi_all h) fun σ H R ⟨F, G, ρ, S, q⟩ => by
    refine ⟨F, G, ρ, S, Res.sat_mono (Res.sat_bind q) (fun d ρ1 p v F1 H1 l S1 => ?_) fun _ _ z => z⟩
    obtain ⟨r, S2⟩ := S1.top
    unfold seqA seqD at p
    cases r with
    | lst h rs => exact .inl ⟨_, rfl, .inl ⟨⟨_, SqL.of (S2.fH _ _ h)⟩, p _ F1 H1 l S2 (walks_lst (SqL.of h) (fun _ _ _ _ _ _ => trivial) rs)⟩⟩
    | scr h rs => exact .inl ⟨_, rfl, .inl ⟨⟨_, SqL.mono S2.fH h⟩, p _ F1 H1 l S2 (walks_lst h (fun _ _ _ _ _ _ => trivial) rs)⟩⟩
    | tup h rs => exact .inl ⟨_, rfl, .inr ⟨⟨_, SqT.of (S2.fH _ _ h)⟩, p _ F1 H1 l S2 (walks_tup (SqT.of h) rs)⟩⟩
    | ktup h rs => exact .inl ⟨_, rfl, .inr ⟨⟨_, SqT.mono S2.fH h⟩, p _ F1 H1 l S2 (walks_tup h rs)⟩⟩
    | str z => exact .inr ⟨z, rfl, p _ F1 H1 l S2 (walks_str z)⟩
    | _ => exact p.elim
end
end DL
namespace DL
open PySem PySem.Spec PyProof.Rows L2
theorem hu1 {A : Around} {k : Nat} (hr : Room k A) : A.units + 1 < cLine := by have := hr.un; omega
end DL
/-! DL: xs[::-1], a new list -/
namespace DL
open PySem PySem.Spec PyProof.Rows L2
variable {X : Cx} {W : WX} {ω : List Sh} {pos : Pos} {a : Expr} {m : M D}
theorem RDs.reverse {K : Fg} {F : Hp} : ∀ {vs : List V} {ds : List D}, RDs K F vs ds → RDs K F vs.reverse ds.reverse
  | _, _, .nil => .nil
  | _, _, .cons r rs => by rw [List.reverse_cons, List.reverse_cons]; exact (RDs.reverse rs).append (.cons r .nil)
def gRev : D → Option D
  | .lst xs => some (.lst xs.reverse)
  | .scr xs => some (.lst xs.reverse)
  | _ => none
theorem de_revO {k : Nat} {p1 p2 p3 : Pos} (ha : DE X W ω a .fz m) : DE X W ω (.Subscript a (.Slice none none (some (.UnaryOp .USub (.Constant (.int 1) k p1) p2)) p3) pos) (.lst .fz) (un1 gRev m) :=
  PE.imp (pe_revL ha) fun σ H Q ⟨F, G, ρ, S, q⟩ => by
    refine ⟨F, G, ρ, S, Res.sat_mono (Res.sat_bind q) (fun d ρ1 q1 v F1 H1 l1 S1 => ?_) fun _ _ z => z⟩
    obtain ⟨r, S2⟩ := S1.top
    have q1 : (liftO (gRev d) ρ1).sat _ _ := q1
    unfold gRev at q1
    cases r with
    | lst h s => exact ⟨_, _, rfl, SqL.of (S2.fH _ _ h), fun p np => q1 _ F1 _ l1 (S2.newO np s.reverse)⟩
    | scr h s => exact ⟨_, _, rfl, SqL.mono S2.fH h, fun p np => q1 _ F1 _ l1 (S2.newO np s.reverse)⟩
    | _ => exact q1.elim
theorem bt_max : bootBuiltins "max" = some (.builtin "max") := by rfl
theorem bt_min : bootBuiltins "min" = some (.builtin "min") := by rfl
theorem bt_sum : bootBuiltins "sum" = some (.builtin "sum") := by rfl
theorem bt_sorted : bootBuiltins "sorted" = some (.builtin "sorted") := by rfl
end DL
/-! DL: more rules: chains as tests; several names that an inner scope reads. -/
namespace DL
open PySem PySem.Spec PyProof.Rows L2
section
variable {X : Cx} {W : WX} {C : Sx} {ω : List Sh} {pos : Pos} {a b c e : Expr} {m m1 m2 m3 : M D} {sh : Sh}
/-- a op b op' c as a test -/
def gIntB (p : Int → Int → Bool) : D → D → Option Bool
  | .int i, .int j => some (p i j)
  | _, _ => none
def chainT (g g' : D → D → Option Bool) (m1 m2 m3 : M D) : M Bool := bindM m1 fun x => bindM m2 fun y => bindM (liftO (g x y)) fun t => if t = true then bindM m3 fun z => liftO (g' y z) else pureM false
theorem tTF_liftT {F : Hp} {o : Option Bool} {k : Bool → M Bool} {σ : L2.St} {H : Hp} {Q : Bool → Hp → Prop} (h : tTF X.K X.mg W ω F (bindM (liftO o) k) σ H Q) : Le F H ∧ ∃ d, o = some d ∧ tTF X.K X.mg W ω F (k d) σ H Q := by
  obtain ⟨G, ρ, S, h⟩ := h
  cases o with
  | none => exact h.elim
  | some d => exact ⟨S.fH, d, rfl, G, ρ, S, h⟩
theorem tTF_bind {F : Hp} {m : M D} {k : D → M Bool} {σ : L2.St} {H : Hp} {Q : Bool → Hp → Prop} (h : tTF X.K X.mg W ω F (bindM m k) σ H Q) :
    tMF X.K X.mg W ω .fz F m σ H fun x H1 => ∃ d F1, Le F F1 ∧ RD X.K F1 x d ∧ tTF X.K X.mg W ω F1 (k d) σ H1 Q := by
  obtain ⟨G, ρ, S, h⟩ := h
  refine ⟨G, ρ, S, Res.sat_mono (Res.sat_bind h) (fun d ρ1 q v F1 H1 l S1 => ?_) fun _ _ z => z⟩
  obtain ⟨r, S2⟩ := S1.top
  exact ⟨d, F1, l, r, G, ρ1, S2, Res.sat_mono q (fun ds ρ' p F' H' l' S' => p F' H' (l.trans l') S') fun _ _ z => z.le l⟩
theorem dt_chain {op op' : CmpOp} {p p' : Int → Int → Bool} (ho : OpR X (compareOp op) (rI0 fun i j => .bl (p i j))) (ho' : OpR X (compareOp op') (rI0 fun i j => .bl (p' i j))) (ha : DE X W ω a .fz m1) (hb : DE X W ω b .fz m2) (hc : DE X W ω c .fz m3)
    (hm : lastMarks [op, op'] [b, c] = false := by with_unfolding_all rfl) : DT X W ω (.Compare a [op, op'] [b, c] pos) (chainT (gIntB p) (gIntB p') m1 m2 m3) :=
  PT.imp (pt_chain ho ho' ha hb hc hm) fun σ H Q q => by
    obtain ⟨F, q⟩ := tT_bind q
    refine ⟨F, tMF_mono q fun x H1 ⟨d1, F1, r1, q1⟩ => ⟨F1, tMF_mono (tTF_bind q1) fun y H2 ⟨d2, F2, l2, r2, q2⟩ => ?_⟩⟩
    obtain ⟨l, t, e, q3⟩ := tTF_liftT q2
    cases r1 with
    | int i =>
      cases r2 with
      | int j =>
        cases e
        refine ⟨_, _, rfl, rfl, _, rfl, ?_⟩
        cases h : p i j with
        | false =>
          rw [h] at q3
          rw [if_neg Bool.false_ne_true]
          exact ⟨_, rfl, tTF_pure q3⟩
        | true =>
          rw [h] at q3
          rw [if_pos rfl]
          refine ⟨F2, tMF_mono (tTF_bind q3) fun z H3 ⟨d3, F3, l3, r3, q4⟩ => ?_⟩
          obtain ⟨l4, r, e4, k4⟩ := tTF_lift q4
          cases r3 with
          | int k => cases e4; exact ⟨_, _, rfl, rfl, _, rfl, k4⟩
          | _ => cases e4
      | _ => cases e
    | _ => cases e
/-- an object that nothing tells of -/
theorem Sim.newX {K : Fg} {ω : List Sh} {F G H : Hp} {ρ : Rho} {σ : L2.St} {p : Addr} {o : HO} (S : Sim K ω F G H ρ σ) (np : H p = none) : Sim K ω F G (upd H p o) ρ σ := by
  obtain ⟨⟨fp, w, n⟩, l, g, dj⟩ := S
  exact ⟨⟨fp, w.mono (Le.refl _) fun x m u e => by rw [upd_ne (ne_of_none e np)]; exact e, n⟩, l.trans (Le.upd np), g.trans (Le.upd np), dj⟩
/-- a, b = x, y of any shapes, by a tuple -/
theorem ds_tupO2 {i j : Nat} {x y : Str} {s1 s2 : Sh} {px py pt : Pos} {kt k2 pt2} (wk : Wk ω C.ωe) (hc : X.calm = true) (hN : X.N.Nodup) (ha : DE X C.W ω a s1 m1) (hb : DE X C.W ω b s2 m2) (ni : X.N[i]? = some x := by rfl) (nj : X.N[j]? = some y := by rfl)
    (hx : Loc X.env.scope x := by first | exact .inl rfl | exact .inr rfl) (hy : Loc X.env.scope y := by first | exact .inl rfl | exact .inr rfl)
    (fx : X.fn x = true ∨ X.env.scope.names.lookup x = some .local := by first | exact .inl rfl | exact .inr rfl) (fy : X.fn y = true ∨ X.env.scope.names.lookup y = some .local := by first | exact .inl rfl | exact .inr rfl)
    (e1 : starEach [a, b] X.env = (false, eval a X.env) :: starEach [b] X.env := by rfl) (e2 : starEach [b] X.env = (false, eval b X.env) :: starEach [] X.env := by rfl)
    (g1 : (assignEach [.Name x px, .Name y py] X.env).map (·.2) = assign (.Name x px) X.env :: (assignEach [.Name y py] X.env).map (·.2) := by rfl) (g2 : (assignEach [.Name y py] X.env).map (·.2) = assign (.Name y py) X.env :: (assignEach [] X.env).map (·.2) := by rfl)
    (hn : (assignEach [.Name x px, .Name y py] X.env).length = 2 := by rfl) (hst : (assignEach [.Name x px, .Name y py] X.env).findIdx? (·.1) = none := by rfl)
    (hw : swappedStores [.Tuple [.Name x px, .Name y py] kt pt] (.Tuple [a, b] k2 pt2) X.env = pure none := by rfl)
    (hs : swapsWithSole [.Tuple [.Name x px, .Name y py] kt pt] (.Tuple [a, b] k2 pt2) pos.line X.env = pure false := by rfl)
    (h1 : (assignEach [.Tuple [.Name x px, .Name y py] kt pt] X.env).map (·.2) = [assign (.Tuple [.Name x px, .Name y py] kt pt) X.env] := by rfl) :
    DS X C ω (.Assign [.Tuple [.Name x px, .Name y py] kt pt] (.Tuple [a, b] k2 pt2) pos) ((ω.set i s1).set j s2) (parM i j (consM m1 (consM m2 nilM))) :=
  PS.imp (ps_asg (pe_tup (pa_cons ha (pa_cons hb pa_nil e2) e1)) (pg_tup hc (pgs_cons (pg_name (i := i) hN ni hx fx) (pgs_cons (pg_name (i := j) hN nj hy fy) pgs_nil g2) g1) hn hst) hs hw h1) fun D σ H ⟨F, G, ρ, S, q⟩ => by
    have q := Res.sat_bind (Res.sat_bind q)
    refine ⟨F, G, ρ, S, Res.sat_mono q (fun d1 ρ1 p v F1 H1 l1 S1 => ?_) fun _ _ z => z.zx wk⟩
    obtain ⟨G', S2, back⟩ := S1.hide
    have p := Res.sat_bind (Res.sat_bind p)
    refine ⟨F1, G', ρ1, S2, Res.sat_mono p (fun d2 ρ2 p2 u F2 H2 l2 S3 => ?_) fun e ρ' z => ?_⟩
    · have S4 := back l2 S3
      have p2 := Res.sat_bind p2
      refine ⟨by show 2 ≤ sizeLine; decide, fun pp np => ?_⟩
      have S5 := S4.newX (o := .tup [v, u]) np
      refine ⟨pp, [v, u], rfl, SqT.of upd_same, rfl, v, [u], rfl, u, [], rfl, rfl, ?_⟩
      refine p2 _ F2 _ (l1.trans l2) ?_
      exact (S5.set (i + 1)).set j
    · refine fun F' H' cls dx l' S' x' => ?_
      have z' := z.zx (ω := ω) (σ := σ) wk
      exact z' F' H' cls dx (l1.trans l') (back l' S').pop x'
end
end DL
namespace DL
open PySem PySem.Spec PyProof.Rows L2
section
variable {X : Cx} {W : WX} {C : Sx} {ω : List Sh} {pos : Pos} {a b c e : Expr}
/-- k in name, k not in name, of an owned dict, as a test -/
def dinT (i : Nat) (neg : Bool) (mk : M D) : M Bool := bindM mk fun k ρ => match getO i (fun o => some (.bl (o.isSome != neg))) k ρ with
  | .ok (.bl t) ρ' => .ok t ρ'
  | _ => .no
theorem dt_din {i : Nat} {x : Str} {p' : Pos} {mk : M D} {s : Sh} (hu : X.A.units + 1 < cLine) (h1 : ω[i]? = some s) (hs : coreSh s = .dct .fz) (hv : PE X (.Name x p') (tVar i)) (hk : DE X W ω b .fz mk) (hm : behindInMarks .In (.Name x p') = false := by with_unfolding_all rfl) : DT X W ω (.Compare b [.In] [.Name x p'] pos) (dinT i false mk) := by
  refine ⟨fun pins s' σ H Q I ⟨F, G, ρ, S, q⟩ => ?_⟩
  have want : tM X.K X.mg W ω .fz mk σ H fun y H1 => tVar i σ H1 fun x' H2 => ∃ a o, x' = .ref a ∧ DGet H2 a y o ∧ Q o.isSome H2 := by
    refine ⟨F, G, ρ, S, Res.sat_mono (Res.sat_bind q) (fun k ρ1 p v F1 H1 l S1 => ?_) fun _ _ z => z⟩
    obtain ⟨rk, S2⟩ := S1.top
    unfold getO at p
    cases e1 : ρ1[i]? with
    | none => rw [e1] at p; exact p.elim
    | some od =>
      cases od with
      | none => rw [e1] at p; exact p.elim
      | some d =>
        rw [e1] at p
        dsimp only at p
        cases eo : dgetD d k with
        | none => rw [eo] at p; exact p.elim
        | some o =>
          rw [eo] at p
          obtain ⟨al, ea, gg, _⟩ := S2.dctO h1 hs e1
          obtain ⟨ov, hg, hss, _⟩ := gg _ _ _ rk eo
          refine ⟨_, ea, al, ov, rfl, hg, ?_⟩
          rw [hss]
          have p' := p F1 H1 l S2
          rw [Bool.bne_false] at p'
          exact p'
  refine wpAny_isTrue_Compare1 (thn (hk.run pins s' σ H _ I want) fun v s1 ⟨y, H1, I1, r1, q1⟩ => thn (hv.run pins s1 σ H1 _ I1 q1) fun u s2 ⟨x', H2, I2, r2, q2⟩ => ?_) hm
  obtain ⟨a, o, rfl, hg, q3⟩ := q2
  obtain rfl : u = Value.ref a := r2
  exact d_in hu I2 hg r1 fun s3 I3 => wpAny_truthy_bool ⟨H2, I3, q3⟩
theorem dt_dnin {i : Nat} {x : Str} {p' : Pos} {mk : M D} {s : Sh} (hu : X.A.units + 1 < cLine) (h1 : ω[i]? = some s) (hs : coreSh s = .dct .fz) (hv : PE X (.Name x p') (tVar i)) (hk : DE X W ω b .fz mk) (hm : behindInMarks .NotIn (.Name x p') = false := by with_unfolding_all rfl) : DT X W ω (.Compare b [.NotIn] [.Name x p'] pos) (dinT i true mk) := by
  refine ⟨fun pins s' σ H Q I ⟨F, G, ρ, S, q⟩ => ?_⟩
  have want : tM X.K X.mg W ω .fz mk σ H fun y H1 => tVar i σ H1 fun x' H2 => ∃ a o, x' = .ref a ∧ DGet H2 a y o ∧ Q (!o.isSome) H2 := by
    refine ⟨F, G, ρ, S, Res.sat_mono (Res.sat_bind q) (fun k ρ1 p v F1 H1 l S1 => ?_) fun _ _ z => z⟩
    obtain ⟨rk, S2⟩ := S1.top
    unfold getO at p
    cases e1 : ρ1[i]? with
    | none => rw [e1] at p; exact p.elim
    | some od =>
      cases od with
      | none => rw [e1] at p; exact p.elim
      | some d =>
        rw [e1] at p
        dsimp only at p
        cases eo : dgetD d k with
        | none => rw [eo] at p; exact p.elim
        | some o =>
          rw [eo] at p
          obtain ⟨al, ea, gg, _⟩ := S2.dctO h1 hs e1
          obtain ⟨ov, hg, hss, _⟩ := gg _ _ _ rk eo
          refine ⟨_, ea, al, ov, rfl, hg, ?_⟩
          rw [hss]
          have p' := p F1 H1 l S2
          rw [Bool.bne_true] at p'
          exact p'
  refine wpAny_isTrue_Compare1 (thn (hk.run pins s' σ H _ I want) fun v s1 ⟨y, H1, I1, r1, q1⟩ => thn (hv.run pins s1 σ H1 _ I1 q1) fun u s2 ⟨x', H2, I2, r2, q2⟩ => ?_) hm
  obtain ⟨a, o, rfl, hg, q3⟩ := q2
  obtain rfl : u = Value.ref a := r2
  exact d_notIn hu I2 hg r1 fun s3 I3 => wpAny_truthy_bool ⟨H2, I3, q3⟩
end
end DL
namespace DL
open PySem PySem.Spec PyProof.Rows L2
theorem vals_of_at' : ∀ {xs : List V} {us : List Value}, us.length = xs.length → (∀ (j : Nat) (x : V) (u : Value), xs[j]? = some x → us[j]? = some u → RelV x u) → Vals xs us
  | [], [], _, _ => .nil
  | [], _ :: _, h, _ => by simp at h
  | _ :: _, [], h, _ => by simp at h
  | x :: xs, u :: us, h, f => .cons (f 0 x u rfl rfl) (vals_of_at' (by simpa using h) fun j y w h1 h2 => f (j + 1) y w (by simpa using h1) (by simpa using h2))
section
variable {X : Cx}
theorem call_list_sgn (hc : X.calm = true) : CallR X (.type "list") (fun xs H Q => ∃ z : Str, xs = [.str z] ∧ z.cps.size ≤ sizeLine ∧ ∀ l, H l = none → Q (.ref l) (upd H l (.lst (z.cps.toList.map fun c => V.str ⟨#[c]⟩)))) := by
  intro pins s σ H xs us Q I r h
  obtain ⟨z, rfl, hz, q⟩ := h
  obtain ⟨u, rfl, t, rfl⟩ := vals1 r
  refine PySem.call_list_str (I.ok.hd hc) z t (fun h' tk acc' c' hkeep hS hacc => ?_) (hn := hz)
  refine ⟨.ref s.heap.objs.size, upd H s.heap.objs.size (.lst (z.cps.toList.map fun c => V.str ⟨#[c]⟩)), I.laid hkeep (Nat.le_refl _) (show ObjOk X.prog X.w _ _ _ (.lst _) from ⟨?_, acc'.toList, c', ?_, ?_⟩), rfl, q _ (I.hok.fresh (Nat.le_refl _))⟩
  · rw [List.length_map, Array.length_toList]; exact hz
  · refine vals_of_at' (by simp [hacc.1]) fun j x w h1 h2 => ?_
    obtain ⟨c, tk, e1, rfl⟩ := hacc.2 j w (by rw [← Array.getElem?_toList]; exact h2)
    rw [List.getElem?_map, Array.getElem?_toList, e1] at h1
    cases h1
    exact ⟨_, rfl⟩
  · rw [Array.toArray_toList]; exact hS
/-- list(x), of a text too -/
def gListA (ds : List D) : Option D := match ds with
  | [.str z] => if z.cps.size ≤ sizeLine then some (.lst (signs z)) else none
  | _ => gList ds
theorem rds_signs {K : Fg} {F : Hp} : ∀ cs : List Nat, RDs K F (cs.map fun c => V.str ⟨#[c]⟩) (cs.map fun c => D.str ⟨#[c]⟩)
  | [] => .nil
  | c :: cs => .cons (.str _) (rds_signs cs)
theorem cd_listA (hc : X.calm = true) : CallD X (.type "list") gListA := fun F ds r e => by
  unfold gListA at e
  split at e
  · split at e
    · rename_i z h
      cases e
      refine CallR.imp (call_list_sgn hc) fun xs H Q ⟨l, rs, q⟩ => ?_
      cases rs with | cons r rs => cases rs; cases r; exact ⟨_, rfl, h, fun p np => q _ _ _ (Gr.one l np) (.lst upd_same (rds_signs _))⟩
    · cases e
  · exact cd_list F ds r e
/-- the products of numbers, lists, texts -/
def gMulA (x y : D) : Option D := match x with
  | .str _ => gRepS x y
  | _ => gMul x y
theorem od_mulA : OpD X (binaryOp .Mult) gMulA := fun F d1 d2 r e => by
  unfold gMulA at e
  split at e
  · exact od_repS F _ d2 r e
  · exact od_mul F d1 d2 r e
end
end DL
namespace DL
open PySem PySem.Spec PyProof.Rows L2
section
variable {X : Cx} {W : WX} {C : Sx} {ω : List Sh} {pos : Pos} {a b c e : Expr} {m : M D}
/-! ### a look at names whose data are frozen for this while, by what it leaves -/
noncomputable def calmT (m : M Bool) : M Bool := fun ρ => match m ρ with
  | .ok b ρ1 => @ite _ (ρ1 = ρ) (Classical.propDecidable _) (.ok b ρ) .no
  | _ => .no
theorem calmT_ok {m : M Bool} {ρ : Rho} {b : Bool} (h : m ρ = .ok b ρ) : calmT m ρ = .ok b ρ := by
  unfold calmT
  rw [h]
  dsimp only
  rw [if_pos rfl]
theorem dt_borrowC {mt : M Bool} (h : DT X W (fzs ω) e mt) : DT X W ω e (calmT mt) := PT.imp h fun σ H Q ⟨F, G, ρ, S, q⟩ => by
  obtain ⟨F1, l1, S1, back⟩ := S.frozen
  refine ⟨F1, G, ρ, S1, ?_⟩
  unfold calmT at q
  cases e : mt ρ with
  | ok d ρ1 =>
    rw [e] at q
    dsimp only at q
    by_cases hp : ρ1 = ρ
    · subst hp
      rw [if_pos rfl] at q
      exact fun F2 H2 l2 S2 => q F H2 (Le.refl _) (back F2 H2 l2 S2.fH S2.gH)
    · rw [if_neg hp] at q; exact q.elim
  | exc x ρ1 => rw [e] at q; exact q.elim
  | no => rw [e] at q; exact q.elim
noncomputable def calmM (m : M D) : M D := fun ρ => match m ρ with
  | .ok d ρ1 => @ite _ (ρ1 = ρ ∧ flatD d = true) (Classical.propDecidable _) (.ok d ρ) .no
  | _ => .no
theorem calmM_ok {ρ : Rho} {d : D} (h : m ρ = .ok d ρ) (hf : flatD d = true) : calmM m ρ = .ok d ρ := by
  unfold calmM
  rw [h]
  dsimp only
  rw [if_pos ⟨rfl, hf⟩]
theorem de_borrowC (h : DE X W (fzs ω) e .fz m) : DE X W ω e .fz (calmM m) := PE.imp h fun σ H Q ⟨F, G, ρ, S, q⟩ => by
  obtain ⟨F1, l1, S1, back⟩ := S.frozen
  refine ⟨F1, G, ρ, S1, ?_⟩
  unfold calmM at q
  cases e : m ρ with
  | ok d ρ1 =>
    rw [e] at q
    dsimp only at q
    by_cases hp : ρ1 = ρ ∧ flatD d = true
    · rw [if_pos hp] at q
      obtain ⟨hp1, hf⟩ := hp
      subst hp1
      refine fun v F2 H2 l2 S2 => ?_
      obtain ⟨r, S3⟩ := S2.top
      exact q v F H2 (Le.refl _) ((back F2 H2 l2 S3.fH S3.gH).push (r.flat hf))
    · rw [if_neg hp] at q; exact q.elim
  | exc x ρ1 => rw [e] at q; exact q.elim
  | no => rw [e] at q; exact q.elim
/-! ### starred parts of displays and calls -/
def starM (m : M D) (ms : M (List D)) : M (List D) := bindM m fun d => bindM (liftO (seqD d)) fun xs => bindM ms fun ys => pureM (xs ++ ys)
theorem tAF_lift {F : Hp} {o : Option (List D)} {k : List D → M (List D)} {σ : L2.St} {H : Hp} {Q : List V → Hp → Prop} (h : tAF X.K X.mg W ω F (bindM (liftO o) k) σ H Q) : Le F H ∧ ∃ xs, o = some xs ∧ tAF X.K X.mg W ω F (k xs) σ H Q := by
  obtain ⟨G, ρ, S, h⟩ := h
  cases o with
  | none => exact h.elim
  | some xs => exact ⟨S.fH, xs, rfl, G, ρ, S, h⟩
theorem da_star {es : List Expr} {ms : M (List D)} {p : Pos} (h : DE X W ω e .fz m) (hs : DA X W ω es ms) (he : starEach (.Starred e p :: es) X.env = (true, eval e X.env) :: starEach es X.env := by rfl) : DA X W ω (.Starred e p :: es) (starM m ms) :=
  PA.imp (StX.pa_star h hs he) fun σ H Q q => by
    obtain ⟨F, q⟩ := tA_cons q
    refine ⟨F, tMF_mono q fun x H1 ⟨d, F1, r, q1⟩ => ?_⟩
    obtain ⟨l, xs, ex, q2⟩ := tAF_lift q1
    have fin : ∀ vs : List V, RDs X.K F1 vs xs → tA X.K X.mg W ω ms σ H1 fun ys H2 => Q (vs ++ ys) H2 := fun vs rv => by
      obtain ⟨G, ρ, S, q3⟩ := q2
      refine ⟨F1, G, ρ, S, Res.sat_mono (Res.sat_bind q3) (fun ds ρ1 p ws F2 H2 l2 S2 rs => ?_) fun _ _ z => z⟩
      exact p (vs ++ ws) F2 H2 l2 S2 ((rv.mono l2).append rs)
    cases r with
    | lst h s => cases ex; exact ⟨_, _, rfl, .inr (SqL.of (l _ _ h)), fin _ s⟩
    | tup h s => cases ex; exact ⟨_, _, rfl, .inl (SqT.of (l _ _ h)), fin _ s⟩
    | ktup h s => cases ex; exact ⟨_, _, rfl, .inl (SqT.mono l h), fin _ s⟩
    | scr h s => cases ex; exact ⟨_, _, rfl, .inr (SqL.mono l h), fin _ s⟩
    | _ => cases ex
end
end DL
/-! DL: o.m(k=e, ..), all by keywords; C(k=e, ..). -/
namespace DL
open PySem PySem.Spec PyProof.Rows L2
def KwM (K : Fg) (fd : FuncData) (ps ks : List Str) (ix : List Nat) : Prop := ∀ (s : Shared) (a : Value) (ws : List Value), K.In s.heap → ws.length = ks.length → BindsTo s fd ⟨[a], ks.zip ws⟩ (ps.zip (a :: byIx ix ws))
theorem kwNM {K : Fg} {x qual : Str} {params : Arguments} {body : List Stmt} {scope : Scope} {kws : List (Str × V)} {f : Addr} {fd : FuncData} {ps ks : List Str} {ix : List Nat} (F : FunD K x qual params body scope [] kws f fd)
    (h : ∀ (kV doc pm : Value) (an : Option Addr) (cdv ct a : Value) (ws : List Value), ws.length = ks.length → bindArgs (PySem.W.fnOf x qual params body scope .none kV doc pm an cdv ct) ⟨[a], ks.zip ws⟩ = pure (ps.zip (a :: byIx ix ws))) : KwM K fd ps ks ix := by
  obtain ⟨oc, od, dV, kV, doc, pm, an, cdv, ct, osl, rfl, lk, hcd, hD, hK⟩ := F.ex
  rcases hD with ⟨_, rfl⟩ | ⟨e, _⟩
  · exact fun s a ws _ hl => .of_eq (h kV doc pm an cdv ct a ws hl)
  · exact absurd rfl e
def kwG (ix : List Nat) (g : List D → Res D) : List D → Res D
  | [] => g []
  | d :: dd => g (d :: byIx ix dd)
@[simp] theorem s_kwG {ix : List Nat} {g : List D → Res D} {d : D} {dd : List D} : kwG ix g (d :: dd) = g (d :: byIx ix dd) := rfl
section
variable {X : Cx} {W : WX} {ω : List Sh} {k : Nat} {fd : FuncData} {ps : List Str} {x : Str} {p pos apos : Pos} {o e : Expr} {es : List Expr} {ms : M (List D)} {rs : Sh} {g : List D → Res D} {np : Nat} {mo : M D}
theorem dmK {C m : Str} {pl : Sem Bool} {ix : List Nat} {ks : List Str} {kws : List Keyword} (Fn : GotM X.prog X.w X.K X.mg X.base k fd C m ps (spF X.K X.mg np rs g)) (hb : KwM X.K fd ps ks ix) (hr : Room k X.A) (gd : X.A.guards = some []) (hx : Lets X W) (ho : DE X W ω o .fz mo) (ha : DK X W ω kws ms)
    (hix : ∀ xs : List V, xs.length = ks.length → (byIx ix xs).length = ks.length) (hnk : ks.length + 1 = np := by rfl)
    (hks : (backToKw pos (keywordEach kws X.env)).filterMap (·.1) = ks := by rfl) (hall : (backToKw pos (keywordEach kws X.env)).all (·.1.isSome) = true := by rfl) (hpl : ((backTo pos (starEach [] X.env)).any (·.1) || (backToKw pos (keywordEach kws X.env)).any (·.1.isNone)) = false := by rfl)
    (ht : eval (.Call (.Attribute o m apos) [] kws pos) X.env = (do
      let ov ← eval o X.env
      standAt apos.atName
      let (f, first) ← holding [ov] (getMethod ov m pl)
      callWith pos f first (backTo pos (starEach [] X.env)) (backToKw pos (keywordEach kws X.env))) := by rfl) :
    DE X W ω (.Call (.Attribute o m apos) [] kws pos) rs (methM C m np (kwG ix g) mo ms) := by
  refine ⟨fun pins s σ H Q I h => ?_⟩
  obtain ⟨F, q⟩ := tM_bind h
  refine PySem.W.methodCall_KW (pl := pl) (thn (ho.run pins s σ H _ I ⟨F, q⟩) fun u s1 ⟨x, H1, I1, rx, d, F1, rd, q1⟩ => ?_) ht
  obtain ⟨G1, ρ1, S1, q1⟩ := q1
  cases rd with
  | ins hf hd e1 rsx =>
    rename_i a dx cn fs ds
    have p1 : ((if cn = C ∧ List.lookup m ds = none then bindM ms fun dd => if (D.ins cn ds :: dd).length = np then ofRes (kwG ix g (D.ins cn ds :: dd)) else failM else failM : M D) ρ1).sat _ _ := q1
    by_cases hc : cn = C ∧ List.lookup m ds = none
    · rw [if_pos hc] at p1
      obtain ⟨rfl, hl⟩ := hc
      obtain rfl : u = Value.ref a := rx
      refine getmeth_ok I1 (S1.fH _ _ hf) Fn.cls Fn.mt (lookup_none e1 hl) ?_
      have want : tA X.K X.mg W ω ms σ H1 fun vs H2 => vs.length = ks.length ∧ spF X.K X.mg np rs g (.ref a :: byIx ix vs) H2 Q fun cls d H => W cls d σ H := by
        refine ⟨F1, G1, ρ1, S1, Res.sat_mono (Res.sat_bind p1) (fun dd ρ2 p vs F2 H2 l S2 rv => ?_) fun _ _ z => z⟩
        split at p
        · rename_i hnp
          have hvl : vs.length = ks.length := by
            rw [rv.length]
            rw [List.length_cons, ← hnk] at hnp
            omega
          obtain ⟨G', gH, dj, back⟩ := S2.aside
          have rself : RD X.K F2 (.ref a) (.ins cn ds) := (RD.ins hf hd e1 rsx).mono l
          refine ⟨hvl, by rw [List.length_cons, hix vs hvl, hnk], F2, G', .ins cn ds :: byIx ix dd, .cons rself (rv.byIx ix), S2.fH, gH, dj, ?_⟩
          have p : (ofRes (g (D.ins cn ds :: byIx ix dd)) ρ2).sat _ _ := p
          unfold ofRes at p
          cases eg : g (D.ins cn ds :: byIx ix dd) with
          | no => rw [eg] at p; exact p
          | ok d ρ3 => rw [eg] at p; exact fun v F' H' l' S' => p v F' H' (l.trans l') (back l' S')
          | exc e ρ3 => rw [eg] at p; exact fun F' H' cls dx l' fH' gH' dj' xx => p F' H' cls dx (l.trans l') (back (ω' := []) (ρ' := []) (σ' := []) l' ⟨⟨[], .nil, fun _ m => by cases m⟩, fH', gH', dj'⟩) xx
        · exact p.elim
      refine PySem.W.callWith_KW0 (first := [.ref a]) (h₀ := X.base) I1.ok.mod.kin Fn.mt.kp hall (thn (ha.run pos pins s1 σ H1 _ I1 want) fun ws s2 ⟨zs, H2, I2, rz, hl, q2⟩ => ⟨I2.kIn, ?_⟩) hpl
      rw [hks]
      have rr : Vals (V.ref a :: byIx ix zs) (Value.ref a :: byIx ix ws) := .cons rfl (Vals.byIx rz ix)
      exact run_g Fn.fn hr gd hx I2 (hb s2 (.ref a) ws I2.kIn (by rw [← rz.length, hl])) rr q2
    · rw [if_neg hc] at p1; exact p1.elim
  | _ => exact q1.elim
end
end DL
/-! DL: sorted(set(x)) of whole numbers. -/
namespace DL
open PySem PySem.Spec PyProof.Rows L2
abbrev eSet (w : World) : Obj := { cls := .type "set", dict := none, data := .set #[] 0 (.fresh 0 0 (!w.params.followText "set-order")) }
section
variable {P : Program} {w : World} {A : Around} {E : Value → Shared → Prop} {s : Shared}
set_option maxHeartbeats 4000000 in
theorem call_set_ofList {lx : Addr} {vs : Array Value} (ks : List Int) {Q : Value → Shared → Prop} (hA : A.handled = none) (hList : s.heap.IsList lx vs) (hInts : IntsAre vs.toList ks) (hLen : ks.length + 1 < scanBound)
    (fin : ∀ (g : Heap) (tk m : Nat), SetR w g s.heap.objs.size (fun j => decide (j ∈ ks)) m → m ≤ ks.length → (∀ b o, s.heap.get? b = some o → g.get? b = some o) → Q (.ref s.heap.objs.size) { s with heap := g, toks := tk }) :
    wpAny (model P w) A (call (.type "set") [.ref lx]) Q E s := by
  have hsz : vs.size = ks.length := by
    have z := IntsAre.length hInts
    simpa using z
  obtain ⟨mro, mroTail, hM⟩ := F.called_set.mro
  have m1 := F.called_set.made
  have m2 := F.called_set.sub
  refine wpAny_call (codeAny_of_tree ?_)
  show wpAny _ _ (callAny (.type "set") ⟨[.ref lx], []⟩) _ _ _
  refine wpAny_pure ⟨Code.quiet_builtin _ (by decide +kernel), ?_⟩
  refine codeAny_builtin F.entry_type_call ?_
  rw [Around.under_plain (weight_type_call_type "set" [.ref lx] []) rfl]
  have m3 := F.called_set.notType
  have m4 := F.called_set.canCreate
  have m5 := F.typeCall_set_1 (.ref lx)
  repeat (any_goals (first | assumption | wp_step))
  let hp1 : Heap := s.heap.push (eSet w)
  have at1 : hp1.get? s.heap.objs.size = some (eSet w) := Heap.get?_push_size _ rfl
  have keep1 : ∀ b o, s.heap.get? b = some o → hp1.get? b = some o := fun b o e => Heap.get?_push_of_some _ e
  refine codeAny_mono (code_set_led1 (.ref lx) (E := E) (Q₁ := fun x s1 => x = .ref s.heap.objs.size ∧ s1 = { s with heap := hp1 }) ⟨rfl, rfl⟩) fun res s1 got => ?_
  match res, got with
  | .error e, got => exact got
  | .ok (.ret x), got =>
    obtain ⟨rfl, rfl⟩ := got
    have ty : Shared.TypeIs { s with heap := hp1 } (.ref s.heap.objs.size) "set" := ⟨_, at1, rfl⟩
    have n1 := F.called_set.init.lookup
    have n2 := F.called_set.init.bind (.ref s.heap.objs.size)
    repeat (any_goals (first | assumption | wp_step))
    refine codeAny_mono (codeAny_call_builtin (R := wants (fun y s2 => y = .none ∧ ∃ g tk m, s2 = { s with heap := g, toks := tk } ∧ SetR w g s.heap.objs.size (fun j => decide (j ∈ ks)) m ∧ m ≤ ks.length ∧ ∀ b o, s.heap.get? b = some o → g.get? b = some o) E) F.called_set.init.plain F.entry_set_init (check_set_init_1 ty ?_)) fun res2 s2 got2 => ?_
    · obtain ⟨ob, e1, e2, sn, e3⟩ := hList
      obtain ⟨obc, obd, obx, obs⟩ := ob
      simp only at e2 e3
      subst e2
      subst e3
      have lt1 : lx < s.heap.objs.size := Heap.lt_size e1
      have at2 := keep1 _ _ e1
      have isL : hp1.IsList lx vs := ⟨_, at2, rfl, sn, rfl⟩
      have sb1 := F.sub_list_set
      have sb2 := F.sub_list_frozenset
      have nd : (Value.type "list" == Value.type "dict") = false := by decide
      unfold Builtin.«set.__init__» noKeywords Builtin.Frozenset.updateFrom
      generalize hq : pyIter = it
      wp_walk
      subst hq
      refine wpAny_pyIter_list isL ?_
      refine wpAny_bind (wpAny_runValue ?_)
      have hA3 : A.in1.in1.in1.handled = none := by simp [hA]
      have size1 : hp1.objs.size = s.heap.objs.size + 1 := Heap.size_push ..
      have neI : lx ≠ hp1.objs.size := by
        rw [size1]
        exact Nat.ne_of_lt (Nat.lt_succ_of_lt lt1)
      have notIn : s.heap.objs.size ∉ [hp1.objs.size, lx] := by
        rw [size1]
        simp only [List.mem_cons, List.not_mem_nil, or_false, not_or]
        exact ⟨Nat.ne_of_lt (Nat.lt_succ_self _), fun z => Nat.ne_of_lt lt1 z.symm⟩
      refine set_update_ints ((Walks.list hA3 _ lx neI vs).toS) s.heap.objs.size notIn ks hsz hLen (fun i v hv => ?_) (vs.size - 0) 0 _ (by omega) (Nat.zero_le _) ⟨⟨_, Heap.get?_push_size _ rfl, rfl, rfl⟩, isL.push _⟩ ⟨0, Nat.le_refl 0, setR_new_at (Heap.get?_push_of_some _ at1)⟩ fun s9 m hm hle hS => ?_
      · have hi : i < ks.length := by rw [← hsz]; exact (Array.getElem?_eq_some_iff.mp hv).1
        obtain ⟨t, e⟩ := PyProof.Rows.IntsAre.int_at hInts i v (by rw [Array.getElem?_toList]; exact hv)
        refine ⟨ks[i], t, List.getElem?_eq_getElem hi, ?_⟩
        rw [e, List.getD_eq_getElem?_getD, List.getElem?_eq_getElem hi] <;> rfl
      · obtain ⟨g, gg, gd, gt, go⟩ := s9
        have q1 : gg = s.gens := hm.gens
        have q2 : gd = s.drawn := hm.drawn
        have q3 : go = s.os := hm.os
        subst q1 q2 q3
        show wpAny _ _ _ _ _ _
        refine wpAny_pure ?_
        show wpAny _ _ (ret Value.none) _ _ _
        rw [hsz] at hle
        refine wpAny_pure ⟨rfl, g, gt, m, rfl, hS, hle, fun b o e => ?_⟩
        have b0 : b < s.heap.objs.size := Heap.lt_size e
        refine hm.heap b o ?_ (Heap.get?_push_of_some _ (keep1 _ _ e))
        rw [size1]
        simp only [List.mem_cons, List.not_mem_nil, or_false, not_or]
        exact ⟨Nat.ne_of_lt b0, Nat.ne_of_lt (Nat.lt_succ_of_lt b0)⟩
    · match res2, got2 with
      | .error e, got2 => exact got2
      | .ok (.ret y), got2 =>
        obtain ⟨rfl, g, tk, m, rfl, hS, hle, kp⟩ := got2
        repeat (any_goals (first | assumption | wp_step))
        exact fin _ _ _ hS hle kp
      | .ok .next, got2 => exact got2.elim
      | .ok .brk, got2 => exact got2.elim
      | .ok .cont, got2 => exact got2.elim
  | .ok .next, got => exact got.elim
  | .ok .brk, got => exact got.elim
  | .ok .cont, got => exact got.elim
end
end DL
/-! DL: sorted(set(x)), len(set(x)) of whole numbers. -/
namespace DL
open PySem PySem.Spec PyProof.Rows L2
/-- ascending, without doubles -/
def insI (x : Int) : List Int → List Int
  | [] => [x]
  | y :: l => if x < y then x :: y :: l else if x = y then y :: l else y :: insI x l
def setI (ns : List Int) : List Int := ns.foldr insI []
theorem mem_insI (x y : Int) : ∀ l : List Int, y ∈ insI x l ↔ y = x ∨ y ∈ l
  | [] => by simp [insI]
  | z :: l => by
    unfold insI
    split
    · simp
    · split
      · rename_i h; subst h; simp
      · simp only [List.mem_cons, mem_insI x y l]
        constructor
        · rintro (h | h | h)
          · exact .inr (.inl h)
          · exact .inl h
          · exact .inr (.inr h)
        · rintro (h | h | h)
          · exact .inr (.inl h)
          · exact .inl h
          · exact .inr (.inr h)
theorem mem_setI (y : Int) : ∀ ns : List Int, y ∈ setI ns ↔ y ∈ ns
  | [] => by simp [setI]
  | x :: ns => by
    show y ∈ insI x (setI ns) ↔ _
    rw [mem_insI, mem_setI y ns, List.mem_cons]
theorem insI_asc (x : Int) : ∀ {l : List Int}, l.Pairwise (· < ·) → (insI x l).Pairwise (· < ·)
  | [], _ => by simp [insI]
  | z :: l, h => by
    obtain ⟨h1, h2⟩ := List.pairwise_cons.mp h
    unfold insI
    split
    · rename_i hx
      refine List.pairwise_cons.mpr ⟨fun a ha => ?_, h⟩
      rcases List.mem_cons.mp ha with rfl | ha
      · exact hx
      · exact Int.lt_trans hx (h1 a ha)
    · split
      · exact h
      · rename_i a b
        refine List.pairwise_cons.mpr ⟨fun c hc => ?_, insI_asc x h2⟩
        rcases (mem_insI x c l).mp hc with rfl | hc
        · omega
        · exact h1 c hc
theorem setI_asc : ∀ ns : List Int, (setI ns).Pairwise (· < ·)
  | [] => .nil
  | x :: ns => insI_asc x (setI_asc ns)
theorem nodup_of_asc {l : List Int} (h : l.Pairwise (· < ·)) : l.Nodup := h.imp fun h => Int.ne_of_lt h
theorem setI_uniq {l ns : List Int} (h : l.Pairwise (· < ·)) (m : ∀ k, k ∈ l ↔ k ∈ ns) : l = setI ns := by
  have p : l.Perm (setI ns) := (List.perm_ext_iff_of_nodup (nodup_of_asc h) (nodup_of_asc (setI_asc ns))).mpr fun k => by rw [m, mem_setI]
  exact List.Perm.eq_of_pairwise (fun a b _ _ h1 h2 => by omega) h (setI_asc ns) p
section
variable {X : Cx} {W : WX} {ω : List Sh} {pos : Pos} {a : Expr} {m : M D}
theorem cr_setL (hc : X.calm = true) : CallR X (.type "set") (fun xs H Q => ∃ (l : Addr) (ns : List Int), xs = [.ref l] ∧ SqL X.K H l (ns.map V.int) ∧ ns.length ≤ 4000 ∧ ∀ p, H p = none → Q (.ref p) (upd H p (SetO X.w p (fun j => decide (j ∈ ns)) (setI ns).length))) := by
  intro pins s σ H xs us Q I r h
  obtain ⟨l, ns, rfl, hq, hl, q⟩ := h
  obtain ⟨u, rfl, rx⟩ := vals1 r
  obtain rfl : u = Value.ref l := rx
  obtain ⟨its, rv, pl, hz⟩ := I.list hq
  have hi : IntsAre its.toArray.toList ns := ints_of_vals rv
  refine call_set_ofList ns (I.ok.hd hc) pl.isList hi (by unfold scanBound; omega) fun g tk c R hc kp => ?_
  obtain ⟨o, es, ep, t, h1, h2, h3, h4, h5, h6, h7, h8, h9, h10⟩ := R
  have hcl : c = (setI ns).length := by
    have p : (es.toList.map keyOf).Perm (setI ns) := (List.perm_ext_iff_of_nodup h5 (nodup_of_asc (setI_asc ns))).mpr fun k => by
      rw [← h6 k, mem_setI, decide_eq_true_eq]
    rw [← p.length_eq, List.length_map, Array.length_toList, h9]
  have R : SetR X.w g s.heap.objs.size (fun j => decide (j ∈ ns)) (setI ns).length := by
    rw [← hcl]
    exact ⟨o, es, ep, t, h1, h2, h3, h4, h5, h6, h7, h8, h9, h10⟩
  exact ⟨.ref _, upd H s.heap.objs.size (SetO X.w s.heap.objs.size (fun j => decide (j ∈ ns)) (setI ns).length), I.laid (t' := tk) kp (Nat.le_refl _) (setO_new R), rfl, q _ (I.hok.fresh (Nat.le_refl _))⟩
def gSortSet : D → Option D
  | .lst ds => (intsD ds).bind fun ns => if ns.length ≤ 4000 ∧ (setI ns).length < 64 then some (.lst ((setI ns).map .int)) else none
  | _ => none
theorem rds_ints {K : Fg} {F : Hp} : ∀ ns : List Int, RDs K F (ns.map V.int) (ns.map D.int)
  | [] => .nil
  | _ :: ns => .cons (.int _) (rds_ints ns)
theorem de_sortSet {p p2 pos2 : Pos} (hc : X.calm = true) (hm : X.mg "sorted" = none) (hm2 : X.mg "set" = none) (ha : DE X W ω a .fz m) (hg : Gl X "sorted" := by rfl) (hg2 : Gl X "set" := by rfl)
    (he : starEach [.Call (.Name "set" p2) [a] [] pos2] X.env = (false, eval (.Call (.Name "set" p2) [a] [] pos2) X.env) :: starEach [] X.env := by rfl) (he2 : starEach [a] X.env = (false, eval a X.env) :: starEach [] X.env := by rfl) :
    DE X W ω (.Call (.Name "sorted" p) [.Call (.Name "set" p2) [a] [] pos2] [] pos) .fz (un1 gSortSet m) :=
  PE.imp (pe_callB (cr_sortedSet hc) hg hm (by rfl) (pa_cons (pe_callTy (cr_setL hc) hg2 hm2 (by rfl) (pa_cons ha pa_nil he2) (he := he2)) pa_nil he) (he := he)) fun σ H Q q => by
    obtain ⟨F, q⟩ := tun q
    refine ⟨F, tMF_mono q fun x H1 ⟨F1, d, r, e, l, rd, k⟩ => ?_⟩
    unfold gSortSet at e
    split at e
    · rename_i ds
      obtain ⟨ns, en, e⟩ := Option.bind_eq_some_iff.mp e
      split at e
      · rename_i hb
        cases e
        cases rd with
        | lst h s =>
          have ev := intsD.ok s en
          subst ev
          refine ⟨_, ns, rfl, SqL.of (l _ _ h), hb.1, fun p np => ⟨p, _, _, rfl, upd_same, hb.2, fun ms p2 asc mem _ np2 => ?_⟩⟩
          have em : ms = setI ns := setI_uniq asc fun k => by rw [mem, decide_eq_true_eq]
          subst em
          have np2' : H1 p2 = none := by
            cases e : H1 p2 with
            | none => rfl
            | some o =>
              have : upd H1 p (SetO X.w p (fun j => decide (j ∈ ns)) (setI ns).length) p2 = some o := by rw [upd_ne (ne_of_none e np)]; exact e
              rw [this] at np2; cases np2
          have hF2 : F1 p2 = none := l.none np2'
          refine k _ (upd F1 p2 (.lst ((setI ns).map V.int))) _ ⟨Le.upd hF2, (Le.upd np).trans (Le.upd np2), ?_, fun a ha hn _ => ?_⟩ (.lst upd_same ((rds_ints _).mono (Le.upd hF2)))
          · exact ((l.trans (Le.upd np))).both
          · rw [upd_ne (fun z => hn (by rw [z]; exact np2'))]; exact ha
      · cases e
    · cases e
end
end DL
/-! DL: == and != of two instances of a class with an own ==. -/
namespace DL
open PySem PySem.Spec PyProof.Rows L2
section
open PySem.W
variable {prog : Program} {w : World} {A : Around} {E : Value → Shared → Prop} {s : Shared} {K : Fg} {x C : Addr} {ox : Obj} {od : Option Obj} {b : Value}
theorem bound_ne {M : Model} {args : List Value} {Q : Option Value → Shared → Prop} (X : K.In s.heap) (I : InstAt s.heap x ox C od) (hs : findIn K (.ref C) "__ne__" = some (some (.builtin "object.__ne__")))
    (h : wpAny M A (call (.builtin "object.__ne__") (.ref x :: args)) (fun v => Q (some v)) E s) : wpAny M A (callSpecialIfBound? (.ref x) "__ne__" args) Q E s := by
  simp only [callSpecialIfBound?, bindSpecialIfBound?]
  have look := (looks_findIn (M := M) X hs)
  refine wpAny_holding (wpAny_bind (wpAny_bind (wpAny_bind (I.type.here (look.here ?_)))))
  have sb := F.cmp_object.ne.bind
  simp only [sb]
  have last : wpAny M A (call (.builtin "object.__ne__") ([.ref x] ++ args) >>= fun v => pure (some v)) Q E s := wpAny_bind (wpAny_mono h (fun v s1 z => wpAny_pure z) fun _ _ z => z)
  refine wpAny_bind (wpAny_askSetting (wpAny_ite ?_))
  split
  · exact wpAny_bind (wpAny_pure (wpAny_pure last))
  · exact wpAny_tryCatch (wpAny_bind (wpAny_pure (wpAny_pure last)))
theorem check_ne {M : Model} {rest : List Value} {Q : Unit → Shared → Prop} (X : K.In s.heap) (I : InstAt s.heap x ox C od) (ho : subIn K (.ref C) (.type "object") = some true) (ha : argsOk "object.__ne__" ⟨.ref x :: rest, []⟩) (hq : Q () s) :
    wpAny M A (checkBuiltinCall "object.__ne__" ⟨.ref x :: rest, []⟩) Q E s := by
  simp only [checkBuiltinCall, F.cmpKind_ne, F.cmpSplit_ne]
  refine wpAny_bind ?_
  unfold isInstance
  refine wpAny_bind (I.type.here ((looks_subIn (M := M) X ho).here ?_))
  cases sg : Manifest.signature? "object.__ne__" with
  | none => exact wpAny_pure hq
  | some sig =>
    simp only [argsOk, sg] at ha
    show wpAny M A (Bind.checkArgs "object.__ne__" sig ⟨.ref x :: rest, []⟩) Q E s
    rw [show Bind.checkArgs "object.__ne__" sig ⟨.ref x :: rest, []⟩ = pure () from ha]
    exact wpAny_pure hq
/-- a != b, by the own == of a's class -/
theorem try_ne {f : Addr} {Q : Option Value → Shared → Prop} (hu : A.units + 1 < cLine) (X : K.In s.heap) (I : InstAt s.heap x ox C od) (hn : findIn K (.ref C) "__ne__" = some (some (.builtin "object.__ne__"))) (ho : subIn K (.ref C) (.type "object") = some true)
    (he : findIn K (.ref C) "__eq__" = some (some (.ref f))) (hf : isFn K (.ref f) = true)
    (h : wpAny (model prog w) A.in1 (call (.ref f) [.ref x, b]) (fun v s1 => ∃ t, v = .bool t ∧ Q (some (.bool (!t))) s1) E s) : wpAny (model prog w) A (tryCompare (.ref x) "__ne__" b) Q E s := by
  simp only [tryCompare]
  refine wpAny_bind (bound_ne X I hn ?_)
  refine wpAny_call (codeAny_call_builtin F.cmp_object.ne.plain F.cmpEntry_ne (check_ne X I ho (F.cmpArgs_ne _ _) ?_))
  unfold Builtin.«object.__ne__»
  have hu1 : A.in1.units < cLine := hu
  refine wpAny_bind (m := slotArgs "__ne__" 1 ⟨[.ref x, b], []⟩) (wpAny_pure ?_)
  dsimp only
  refine wpAny_bind (wpAny_cRoomFor hu1 ?_)
  refine wpAny_bind (ifBound_K X I he hf (wpAny_mono h (fun v s1 z => ?_) fun _ _ z => z))
  obtain ⟨t, rfl, q⟩ := z
  dsimp only
  refine wpAny_bind (wpAny_truthy_bool ?_)
  exact wpAny_pure (wpAny_pure q)
theorem rich_ne {f L : Addr} {h₀ : Heap} {m : Str → Option Value} {tb : Value} {Q : Value → Shared → Prop} (hu : A.units + 1 < cLine) (F : Fr h₀ L s.heap m) (X₀ : K.In h₀) (I : InstAt s.heap x ox C od) (hb : Looks (model prog w) s.heap (typeOf b) tb) (hnf : notFirst K C tb = true)
    (hn : findIn K (.ref C) "__ne__" = some (some (.builtin "object.__ne__"))) (ho : subIn K (.ref C) (.type "object") = some true)
    (he : findIn K (.ref C) "__eq__" = some (some (.ref f))) (hf : isFn K (.ref f) = true)
    (h : wpAny (model prog w) A.in1 (call (.ref f) [.ref x, b]) (fun v s1 => ∃ t, v = .bool t ∧ Q (.bool (!t)) s1) E s) : wpAny (model prog w) A (richCompare .NotEq (.ref x) b) Q E s := by
  have X := X₀.keeps F.keep
  have go : wpAny (model prog w) A (tryCompare (.ref x) "__ne__" b) (fun r s1 => ∃ t, r = some (.bool t) ∧ Q (.bool t) s1) E s :=
    try_ne hu X I hn ho he hf (wpAny_mono h (fun v s1 z => let ⟨t, e, q⟩ := z; ⟨t, e, !t, rfl, q⟩) fun _ _ z => z)
  simp only [richCompare, cmpInfo_NotEq, oneThing_ref]
  refine wpAny_holding (wpAny_bind (wpAny_cRoomFor (Nat.lt_of_succ_lt hu) ?_))
  refine wpAny_bind (I.type.here (wpAny_bind (hb.here ?_)))
  split
  · rename_i ne
    have no : subIn K tb (.ref C) = some false := by
      rcases Bool.or_eq_true_iff.mp hnf with z | z
      · rw [beq_iff_eq.mp z] at ne; simp at ne
      · exact beq_iff_eq.mp z
    refine wpAny_bind ((looks_subIn X no).here ?_)
    simp only [Bool.false_eq_true, if_false]
    refine wpAny_bind (wpAny_mono go (fun r s1 z => ?_) fun _ _ z => z)
    obtain ⟨t, rfl, q⟩ := z
    exact wpAny_pure q
  · refine wpAny_bind (wpAny_pure ?_)
    simp only [Bool.false_eq_true, if_false]
    refine wpAny_bind (wpAny_mono go (fun r s1 z => ?_) fun _ _ z => z)
    obtain ⟨t, rfl, q⟩ := z
    exact wpAny_pure q
end
/-- a class with an own ==, without an own != -/
structure EqC (P : Program) (w : World) (K : Fg) (mg : Str → Option Value) (base : Heap) (k : Nat) (fd : FuncData) (C : Str) (ps : List Str) (sp : Sp) : Prop where
  m : GotM P w K mg base k fd C "__eq__" ps sp
  ne : PySem.W.findIn K (.ref (He.ga K C)) "__ne__" = some (some (.builtin "object.__ne__"))
  ob : PySem.W.subIn K (.ref (He.ga K C)) (.type "object") = some true
/-- the two facts of the class object beyond its == -/
def eqcB (K : Fg) (C : Str) : Bool := (match PySem.W.findIn K (.ref (He.ga K C)) "__ne__" with
  | some (some (.builtin n)) => decide (n = "object.__ne__")
  | _ => false) && (match PySem.W.subIn K (.ref (He.ga K C)) (.type "object") with
  | some b => b
  | none => false)
theorem eqcB.ok {P : Program} {w : World} {K : Fg} {mg : Str → Option Value} {base : Heap} {k : Nat} {fd : FuncData} {C : Str} {ps : List Str} {sp : Sp} (h : eqcB K C = true) (m : GotM P w K mg base k fd C "__eq__" ps sp) : EqC P w K mg base k fd C ps sp := by
  obtain ⟨a, b⟩ := He.ba h
  refine ⟨m, ?_, ?_⟩
  · split at a
    · rename_i n e; rw [e, of_decide_eq_true a]
    · cases a
  · split at b
    · rename_i t e; rw [e, b]
    · cases b
section
variable {X : Cx} {W : WX} {ω : List Sh} {k : Nat} {fd : FuncData} {ps : List Str} {pos : Pos} {a b : Expr} {m1 m2 : M D} {g : List D → Res D} {C : Str}
/-- what an own == tells of two -/
def eqI (C : Str) (g : List D → Res D) (neg : Bool) (x y : D) : Option Bool := match x, y with
  | .ins C1 _, .ins C2 _ => if C1 = C ∧ C2 = C then (match g [x, y] with
    | .ok (.bl t) _ => some (t != neg)
    | _ => none) else none
  | _, _ => none
theorem run_eq {A : Around} {pins : List (Addr × Obj)} {σ : L2.St} {H : Hp} {s : Shared} {F G : Hp} {ρ : Rho} {x y : Addr} {d1 d2 : D} {t : Bool} {ρ' : Rho} {Q : Bool → Hp → Prop} (Fn : FnG X.prog X.w X.K X.mg X.base k (He.ma X.K (He.ga X.K C) "__eq__") fd ps (spF X.K X.mg 2 .fz g)) (bd : Binds X.K fd ps []) (hps : ps.length = 2)
    (hx : Lets X W) (hr : Room k A) (hfr : A.frames = X.A.frames) (gd : A.guards = some []) (I : Inv X pins σ H s) (S : Sim X.K ω F G H ρ σ) (r1 : RD X.K F (.ref x) d1) (r2 : RD X.K F (.ref y) d2) (e : g [d1, d2] = .ok (.bl t) ρ')
    (h : ∀ F' H', Le F F' → Sim X.K ω F' G H' ρ σ → Q t H') : wpAny (model X.prog X.w) A (call (.ref (He.ma X.K (He.ga X.K C) "__eq__")) [.ref x, .ref y]) (fun v s1 => ∃ t, v = .bool t ∧ ∃ H', Inv X pins σ H' s1 ∧ Q t H') X.xe s := by
  obtain ⟨G', gH, dj, back⟩ := S.aside
  have sp : spF X.K X.mg 2 .fz g [.ref x, .ref y] H (fun v H' => v = .bl t ∧ Q t H') (fun cls d H => W cls d σ H) := by
    refine ⟨rfl, F, G', [d1, d2], .cons r1 (.cons r2 .nil), S.fH, gH, dj, ?_⟩
    rw [e]
    refine fun v F' H' l S' => ?_
    have S2 := back l S'
    obtain ⟨rv, S3⟩ := S2.top
    cases rv
    exact ⟨rfl, h F' H' l S3⟩
  have e0 : Env0 X.prog X.w X.K X.mg X.base A X.stack s H := by
    have z := I.env0
    exact ⟨by rw [hfr]; exact z.frames, z.mod, z.bs, z.bsz, z.funs, z.frf, z.hok, z.bare⟩
  have rv : Vals [V.ref x, V.ref y] [Value.ref x, Value.ref y] := .cons rfl (.cons rfl .nil)
  have bt := bd s [.ref x, .ref y] I.kIn (by simpa using hps.symm)
  rw [List.append_nil] at bt
  refine wpAny_call (codeAny_mono (Fn.run A X.stack s H ⟨[.ref x, .ref y], []⟩ [.ref x, .ref y] _ _ _ hr gd e0 bt rv sp) fun r s1 hq => ?_)
  cases r with
  | error e => exact hx σ pins H s e s1 I hq
  | ok fl =>
    cases fl with
    | ret v =>
      obtain ⟨z, H', I', rz, ez, q⟩ := I.after hq
      subst ez
      cases rz
      exact ⟨t, rfl, H', I', q⟩
    | next => exact False.elim hq
    | brk => exact False.elim hq
    | cont => exact False.elim hq
theorem cmp_eqI {pins : List (Addr × Obj)} {σ : L2.St} {H : Hp} {s : Shared} {F G : Hp} {ρ : Rho} {d1 d2 : D} {t neg : Bool} {v u : Value} {x y : V} {Q : VK} (E : EqC X.prog X.w X.K X.mg X.base k fd C ps (spF X.K X.mg 2 .fz g)) (hps : ps.length = 2) (hx : Lets X W)
    (hr : Room (k + 1) X.A) (gd : X.A.guards = some []) (hu : X.A.units + 1 < cLine) (I : Inv X pins σ H s) (S : Sim X.K ω F G H ρ σ) (r1 : RD X.K F x d1) (r2 : RD X.K F y d2) (rx : RelV x v) (ry : RelV y u) (e : eqI C g neg d1 d2 = some t)
    (h : ∀ F' H', Le F F' → Sim X.K ω F' G H' ρ σ → Q (.bl t) H') : wpAny (model X.prog X.w) X.A (compareOp (if neg = true then .NotEq else .Eq) v u) (EP X pins σ Q) X.xe s := by
  unfold eqI at e
  split at e
  · rename_i f1 f2
    split at e
    · rename_i hc
      obtain ⟨rfl, rfl⟩ := hc
      split at e
      · rename_i tt ρ' eg
        cases e
        have r1' := r1
        have r2' := r2
        cases r1 with
        | ins a1 a2 a3 a4 =>
          cases r2 with
          | ins b1 b2 b3 b4 =>
            obtain ⟨ax, hax⟩ : ∃ ax, v = Value.ref ax := ⟨_, rx⟩
            obtain ⟨bx, hbx⟩ : ∃ bx, u = Value.ref bx := ⟨_, ry⟩
            cases rx; cases ry
            obtain ⟨mA, J, _⟩ := ins_get I.hok (S.fH _ _ a1)
            obtain ⟨mB, J', _⟩ := ins_get I.hok (S.fH _ _ b1)
            obtain ⟨od, J, _⟩ := J.look
            obtain ⟨od', J', _⟩ := J'.look
            obtain ⟨m, hF⟩ := I.fr
            cases neg with
            | false =>
              refine PySem.W.cmp_K (op := .Eq) (tb := .ref _) (Nat.lt_of_succ_lt hu) hF I.ok.mod.kin J J'.type (by simp [PySem.W.notFirst]) E.m.mt.at_ E.m.mt.fn ?_
              refine wpAny_mono (run_eq (ω := ω) (Q := fun t H' => Q (.bl (t != false)) H') E.m.fn E.m.bd hps hx (hr.mono (Nat.le_succ _)) rfl gd I S r1' r2' eg fun F' H' l S' => h F' H' l S') (fun z s1 hz => ?_) fun _ _ z => z
              obtain ⟨t2, rfl, H', I', q⟩ := hz
              exact ⟨.bl t2, H', I', rfl, by rw [Bool.bne_false] at q; exact q⟩
            | true =>
              refine rich_ne hu hF I.ok.mod.kin J J'.type (by simp [PySem.W.notFirst]) E.ne E.ob E.m.mt.at_ E.m.mt.fn ?_
              refine wpAny_mono (run_eq (A := X.A.in1) (ω := ω) (Q := fun t H' => Q (.bl (t != true)) H') E.m.fn E.m.bd hps hx hr.in1 rfl gd I S r1' r2' eg fun F' H' l S' => h F' H' l S') (fun z s1 hz => ?_) fun _ _ z => z
              obtain ⟨t2, rfl, H', I', q⟩ := hz
              exact ⟨t2, rfl, .bl (!t2), H', I', rfl, by rw [Bool.bne_true] at q; exact q⟩
      · cases e
    · cases e
  · cases e
def eqIM (C : Str) (g : List D → Res D) (neg : Bool) (m1 m2 : M D) : M D := bindM m1 fun x => bindM m2 fun y => liftO ((eqI C g neg x y).map .bl)
def eqIT (C : Str) (g : List D → Res D) (neg : Bool) (m1 m2 : M D) : M Bool := bindM m1 fun x => bindM m2 fun y => liftO (eqI C g neg x y)
@[simp] theorem s_ownEq {C : Str} {g : List D → Res D} {neg : Bool} {m1 m2 : M D} {ρ : Rho} : eqIM C g neg m1 m2 ρ = (bindM m1 fun x => bindM m2 fun y => liftO ((eqI C g neg x y).map .bl)) ρ := rfl
@[simp] theorem s_ownEqT {C : Str} {g : List D → Res D} {neg : Bool} {m1 m2 : M D} {ρ : Rho} : eqIT C g neg m1 m2 ρ = (bindM m1 fun x => bindM m2 fun y => liftO (eqI C g neg x y)) ρ := rfl
theorem de_eqI {op : CmpOp} {neg : Bool} (E : EqC X.prog X.w X.K X.mg X.base k fd C ps (spF X.K X.mg 2 .fz g)) (hr : Room (k + 1) X.A) (gd : X.A.guards = some []) (hx : Lets X W) (hu : X.A.units + 1 < cLine) (ha : DE X W ω a .fz m1) (hb : DE X W ω b .fz m2) (hop : op = if neg = true then .NotEq else .Eq := by rfl) (hps : ps.length = 2 := by rfl) (hm : behindInMarks op b = false := by exact nomark _) :
    DE X W ω (.Compare a [op] [b] pos) .fz (eqIM C g neg m1 m2) := by
  subst hop
  refine ⟨fun pins s σ H Q I h => ?_⟩
  obtain ⟨F, q⟩ := tM_bind h
  refine wpAny_Compare1 (thn (ha.run pins s σ H _ I ⟨F, q⟩) fun v s1 ⟨x, H1, I1, rx, d1, F1, r1, q1⟩ => ?_) hm
  refine thn (hb.run pins s1 σ H1 _ I1 ⟨F1, tMF_bind q1⟩) fun u s2 ⟨y, H2, I2, ry, d2, F2, l2, r2, q2⟩ => ?_
  obtain ⟨G, ρ, S, q2⟩ := q2
  cases e : eqI C g neg d1 d2 with
  | none => rw [e] at q2; exact q2.elim
  | some t =>
    rw [e] at q2
    exact cmp_eqI E hps hx hr gd hu I2 S (r1.mono l2) r2 rx ry e fun F' H' l S' => q2 _ F' H' l (S'.push (.bl _))
theorem dt_eqI {op : CmpOp} {neg : Bool} (E : EqC X.prog X.w X.K X.mg X.base k fd C ps (spF X.K X.mg 2 .fz g)) (hr : Room (k + 1) X.A) (gd : X.A.guards = some []) (hx : Lets X W) (hu : X.A.units + 1 < cLine) (ha : DE X W ω a .fz m1) (hb : DE X W ω b .fz m2) (hop : op = if neg = true then .NotEq else .Eq := by rfl) (hps : ps.length = 2 := by rfl) (hm : behindInMarks op b = false := by exact nomark _) :
    DT X W ω (.Compare a [op] [b] pos) (eqIT C g neg m1 m2) := by
  subst hop
  refine ⟨fun pins s σ H Q I h => ?_⟩
  obtain ⟨F, q⟩ := tT_bind h
  refine wpAny_isTrue_Compare1 (thn (ha.run pins s σ H _ I ⟨F, q⟩) fun v s1 ⟨x, H1, I1, rx, d1, F1, r1, q1⟩ => ?_) hm
  refine thn (hb.run pins s1 σ H1 _ I1 ⟨F1, tTF_bind q1⟩) fun u s2 ⟨y, H2, I2, ry, d2, F2, l2, r2, q2⟩ => ?_
  obtain ⟨G, ρ, S, q2⟩ := q2
  cases e : eqI C g neg d1 d2 with
  | none => rw [e] at q2; exact q2.elim
  | some t =>
    rw [e] at q2
    refine thn (cmp_eqI (Q := fun z H' => z = .bl t ∧ Q t H') E hps hx hr gd hu I2 S (r1.mono l2) r2 rx ry e fun F' H' l S' => ⟨rfl, q2 F' H' l S'⟩) fun z s3 ⟨zv, H3, I3, rz, ez, q3⟩ => ?_
    subst ez
    cases rz
    exact wpAny_truthy_bool ⟨H3, I3, q3⟩
end
/-! ### is and is not between bools -/
def gIsB : D → D → Option D
  | .bl a, .bl b => some (.bl (decide (a = b)))
  | _, _ => none
def gNotB : D → D → Option D
  | .bl a, .bl b => some (.bl (!decide (a = b)))
  | _, _ => none
theorem od_isB {X : Cx} : OpD X (compareOp .Is) gIsB := fun F d1 d2 r e => by
  unfold gIsB at e
  split at e
  · cases e
    refine OpR.imp op_is_bl fun x y H Q ⟨l, r1, r2, q⟩ => ?_
    cases r1
    cases r2
    exact ⟨_, _, rfl, rfl, q _ F H (Gr.refl l) (.bl _)⟩
  · cases e
theorem od_notB {X : Cx} : OpD X (compareOp .IsNot) gNotB := fun F d1 d2 r e => by
  unfold gNotB at e
  split at e
  · cases e
    refine OpR.imp op_isnot_bl fun x y H Q ⟨l, r1, r2, q⟩ => ?_
    cases r1
    cases r2
    exact ⟨_, _, rfl, rfl, q _ F H (Gr.refl l) (.bl _)⟩
  · cases e
@[simp] theorem s_isB {a b : Bool} : gIsB (.bl a) (.bl b) = some (.bl (decide (a = b))) := rfl
@[simp] theorem s_notB {a b : Bool} : gNotB (.bl a) (.bl b) = some (.bl (!decide (a = b))) := rfl
end DL
/-! DL: sorted(xs) and min(xs) of any plain data that compare. -/
namespace DL
open PySem PySem.Spec PyProof.Rows L2
open PySem.W (AllAlike Sortable dataLe dataLt alike EachIs AlikeAll sorted_data iter_listW cmpIn_lt moved_old argBest_fold)
theorem toPs_map : ∀ ds : List D, toPs ds = ds.map toP
  | [] => rfl
  | d :: ds => by rw [List.map_cons, ← toPs_map ds]; rfl
theorem plains : ∀ {ds : List D}, plainDs ds = true → ∀ d ∈ ds, plainD d = true
  | [], _, d, h => by cases h
  | x :: xs, h, d, m => by
    have h : (plainD x && plainDs xs) = true := h
    rw [Bool.and_eq_true] at h
    rcases List.mem_cons.mp m with rfl | m
    · exact h.1
    · exact plains h.2 d m
theorem small_sz {n : Nat} (h : n ≤ 1000000) : n ≤ sizeLine := Nat.le_trans h (by decide)
/-- what sorted asks of the items -/
structure SrtOk (ds : List D) : Prop where
  p : plainDs ds = true
  a : AllAlike (ds.map toP)
  k : Sortable (ds.map toP)
  n : ds.length ≤ 1000000
  d : ∀ x ∈ ds, (toP x).depth ≤ 60
noncomputable def sortedD (ds : List D) : List D := ds.mergeSort (dataLe false toP)
noncomputable def gSortD : List D → Option D
  | [.lst ds] => open Classical in if SrtOk ds then some (.lst (sortedD ds)) else none
  | _ => none
/-- what min asks of the items -/
structure MinOk (ds : List D) : Prop where
  p : plainDs ds = true
  a : ∀ x ∈ ds, ∀ y ∈ ds, alike (toP x) (toP y) = true
  k : ∀ x ∈ ds, toP x ≠ .none
  d : PyData.depthAll (toPs ds) ≤ 60
noncomputable def leastD (x : D) (xs : List D) : D := xs.foldl (fun a y => if dataLt (toP y) (toP a) = true then y else a) x
noncomputable def gMinD : List D → Option D
  | [.lst (x :: xs)] => open Classical in if MinOk (x :: xs) then some (leastD x xs) else none
  | _ => none
section
variable {X : Cx}
theorem RDs.both {K : Fg} {F : Hp} : ∀ {xs : List V} {ds : List D} {us : List Value}, RDs K F xs ds → Vals xs us → EachIs (fun u d => ∃ x, RelV x u ∧ RD K F x d) us ds
  | _, _, _, .nil, r => by cases r; exact .nil
  | _, _, _, .cons a b, r => by cases r with | cons r1 r2 => exact .cons ⟨_, r1, a⟩ (RDs.both b r2)
theorem each_back {K : Fg} {F : Hp} : ∀ {us : List Value} {ds : List D}, EachIs (fun u d => ∃ x, RelV x u ∧ RD K F x d) us ds → ∃ xs, RDs K F xs ds ∧ Vals xs us
  | _, _, .nil => ⟨[], .nil, .nil⟩
  | _, _, .cons ⟨x, r, d⟩ t => by
    obtain ⟨xs, a, b⟩ := each_back t
    exact ⟨x :: xs, .cons d a, .cons r b⟩
theorem mem_each {R : Value → D → Prop} {R' : Value → D → Prop} : ∀ {us : List Value} {ds : List D}, EachIs R us ds → (∀ d ∈ ds, ∀ u, R u d → R' u d) → EachIs R' us ds
  | _, _, .nil, _ => .nil
  | _, _, .cons h t, k => .cons (k _ List.mem_cons_self _ h) (mem_each t fun d m => k d (List.mem_cons_of_mem _ m))
theorem cd_sortD (hu : X.A.units + 65 < cLine) : CallD X (.builtin "sorted") gSortD := fun F ds r e => by
  unfold gSortD at e
  split at e
  · rename_i ds
    split at e
    · rename_i ok
      cases e
      intro pins s σ H xs us Q I rv h
      obtain ⟨l, rs, q⟩ := h
      cases rs with
      | cons r1 rs =>
        cases rs
        cases r1 with
        | lst ha rds =>
          rw [Vals.ref1 rv]
          obtain ⟨its, rvs, pl, hz⟩ := I.list (SqL.of (l _ _ ha))
          have ea := (rds.mono l).both rvs
          have er : EachIs (fun u d => ∃ as, Reads s.heap u (toP d) as) its ds := mem_each ea fun d m u ⟨x, rx, rd⟩ => Dp.reads I (toP d) x u (rd.dp (plains ok.p d m)) rx
          have nn := ok.n
          refine sorted_data pl.isList ((rds.both rvs)) er ok.a ok.k (small_sz nn) (fun b m => ?_) fun out hl eo => ?_
          · have := ok.d b m
            omega
          · obtain ⟨ys, ry, vy⟩ := each_back eo
            obtain ⟨ep, he'⟩ := PyProof.Rows.sortedAll_at s.heap its out.toArray
            have np : H (s.heap.objs.size + 1) = none := I.hok.fresh (Nat.le_succ _)
            have hlen : ys.length ≤ sizeLine := by
              rw [ry.length, List.length_mergeSort]
              exact small_sz nn
            refine ⟨.ref _, upd H (s.heap.objs.size + 1) (.lst ys), I.laid (t' := s.toks) (fun _ _ => PyProof.Rows.sortedAll_old) (Nat.le_succ _) ⟨hlen, out, ep, vy, he'⟩, rfl, ?_⟩
            exact q _ _ _ (Gr.one l np) (.lst upd_same (ry.mono (Le.upd (l.none np))))
    · cases e
  · cases e
theorem getD_toP (ds : List D) (i : Nat) : (toPs ds).getD i .none = toP (ds.getD i .non) := by
  rw [toPs_map, List.getD_eq_getElem?_getD, List.getD_eq_getElem?_getD, List.getElem?_map]
  cases ds[i]? with
  | none => rfl
  | some d => rfl
theorem cd_minD (hc : X.calm = true) (hu : X.A.units + 65 < cLine) : CallD X (.builtin "min") gMinD := fun F ds r e => by
  unfold gMinD at e
  split at e
  · rename_i x xs
    split at e
    · rename_i ok
      cases e
      intro pins s σ H vs us Q I rv h
      obtain ⟨l, rs, q⟩ := h
      cases rs with
      | cons r1 rs =>
        cases rs
        cases r1 with
        | lst ha rds =>
          rw [Vals.ref1 rv]
          obtain ⟨its, rvs, pl, hz⟩ := I.list (SqL.of (l _ _ ha))
          obtain ⟨as, hr⟩ := Dp.readsAll I _ _ its ((rds.mono l).dp ok.p) rvs
          have hd := ok.d
          have ea := rds.both rvs
          have hn : its.length = xs.length + 1 := by rw [ea.length]; rfl
          have ali : AlikeAll (toPs (x :: xs)) := by
            rw [toPs_map]
            refine ⟨fun a ha b hb => ?_, fun a ha => ?_⟩
            · obtain ⟨a', ma, rfl⟩ := List.mem_map.mp ha
              obtain ⟨b', mb, rfl⟩ := List.mem_map.mp hb
              exact ok.a _ ma _ mb
            · obtain ⟨a', ma, rfl⟩ := List.mem_map.mp ha
              exact ok.k _ ma
          refine call_min_walkH (iter_listW (A := X.A.in1) (vs := its.toArray) (I.ok.hd hc) pl.isList fun s₂ e W st hfp hw hk => ?_)
          refine ⟨_, _, _, _, _, _, _, s.heap, _, rfl, W, st, hfp, by rw [List.size_toArray]; omega, hw, hk, cmpIn_lt (A := X.A.in1) hr ali (by show X.A.units + 1 + _ < _; omega), fun v s' hP m => ?_⟩
          obtain ⟨h', tk, rfl, hk'⟩ := moved_old e rfl m
          have e1 : its.toArray.size - 1 = xs.length := by rw [List.size_toArray]; omega
          have e2 := (argBest_fold (fun a b : D => dataLt (toP a) (toP b)) D.non x xs xs.length (Nat.le_refl _)).2
          have e0 := (argBest_fold (fun a b : D => dataLt (toP a) (toP b)) D.non x xs xs.length (Nat.le_refl _)).1
          have hb : (fun i j => dataLt ((toPs (x :: xs)).getD i .none) ((toPs (x :: xs)).getD j .none)) = (fun i j => dataLt (toP ((x :: xs).getD i .non)) (toP ((x :: xs).getD j .non))) := by
            funext i j
            rw [getD_toP, getD_toP]
          rw [List.take_length] at e2
          rw [e1, hb] at hP
          generalize hi : argBest (fun i j => dataLt (toP ((x :: xs).getD i .non)) (toP ((x :: xs).getD j .non))) xs.length = i at hP e2 e0
          have hi2 : i < (x :: xs).length := Nat.lt_succ_of_le e0
          have hv : its[i]? = some v := by rw [← hP]; simp
          have key : ∀ {us : List Value} {ds : List D} {i : Nat} {u : Value}, EachIs (fun u d => ∃ x, RelV x u ∧ RD X.K F x d) us ds → us[i]? = some u → ∃ z, RelV z u ∧ RD X.K F z (ds.getD i .non) := by
            intro us ds i u ee
            induction ee generalizing i with
            | nil => intro z; simp at z
            | cons h t ih =>
              intro z
              cases i with
              | zero =>
                rw [List.getElem?_cons_zero] at z
                cases z
                exact h
              | succ i =>
                rw [List.getElem?_cons_succ] at z
                exact ih z
          obtain ⟨z, rz, rd⟩ := key ea hv
          have e3 : (x :: xs).getD i .non = leastD x xs := e2
          rw [e3] at rd
          exact ⟨z, H, I.kept hk', rz, q z F H (Gr.refl l) rd⟩
    · cases e
  · cases e
end
end DL
/-! DL: a dict is locked for good; its keys are walked; ranges with a step. -/
namespace DL
open PySem PySem.Spec PyProof.Rows L2
section
variable {K : Fg} {ω : List Sh} {F G H : Hp} {ρ : Rho} {σ : L2.St} {fp : List Addr}
theorem OwnL.lockZ (o : OwnL K F H ω σ ρ fp) : ∀ {i : Nat} {ds : List (List Key × D)}, ω[i]? = some (.dct .fz) → ρ[i]? = some (some (.dT ds)) → (∀ x ∈ fp, F x = none) →
    ∃ (a : Addr) (kvs : List (List Key × V)) (fp' : List Addr), σ[i]? = some (some (.ref a)) ∧ a ∈ fp ∧ H a = some (.dT kvs) ∧ (∀ x ∈ fp', x ∈ fp ∧ x ≠ a) ∧
      ∀ od, OwnL K (upd F a (.frz od (.dT kvs))) (upd H a (.frz od (.dT kvs))) (ω.set i .fz) σ (ρ.set i (some (.dZ ds))) fp' := by
  induction o with
  | nil => intro i ds h; simp at h
  | un o ih =>
    intro i ds h1 h2 n
    cases i with
    | zero => simp at h2
    | succ i =>
      obtain ⟨a, kvs, fp', e1, e2, e3, e4, e5⟩ := ih (i := i) (ds := ds) (by simpa using h1) (by simpa using h2) n
      exact ⟨a, kvs, fp', by simpa using e1, e2, e3, e4, fun od => .un (e5 od)⟩
  | @bd s v d ω σ ρ f1 f2 w o nn ih =>
    intro i ds h1 h2 n
    cases i with
    | zero =>
      simp at h1 h2
      subst h1 h2
      cases w with
      | @dT _ a kvs _ fq ha e1 r na =>
        obtain ⟨rs, e0⟩ := r.fz_rds
        subst e0
        have fa : F a = none := n a (List.mem_append_left _ List.mem_cons_self)
        have na2 : a ∉ f2 := nn a List.mem_cons_self
        refine ⟨a, kvs, [] ++ f2, rfl, List.mem_append_left _ List.mem_cons_self, ha, fun x hx => ⟨List.mem_append_right _ (by simpa using hx), fun z => na2 (by rw [← z]; simpa using hx)⟩, fun od => ?_⟩
        exact .bd (.fz (.dZ upd_same e1 (rs.mono (Le.upd fa)))) (o.mono (Le.upd fa) fun x m u e => by rw [upd_ne (fun z => na2 (by rw [← z]; exact m))]; exact e) (fun _ m => by cases m)
    | succ i =>
      obtain ⟨a, kvs, fp', e1, e2, e3, e4, e5⟩ := ih (i := i) (ds := ds) (by simpa using h1) (by simpa using h2) fun x m => n x (List.mem_append_right _ m)
      have na1 : a ∉ f1 := fun z => nn a z e2
      have fa : F a = none := n a (List.mem_append_right _ e2)
      refine ⟨a, kvs, f1 ++ fp', by simpa using e1, List.mem_append_right _ e2, e3, fun x hx => ?_, fun od => ?_⟩
      · rcases List.mem_append.mp hx with z | z
        · exact ⟨List.mem_append_left _ z, fun q => na1 (by rw [← q]; exact z)⟩
        · exact ⟨List.mem_append_right _ (e4 x z).1, (e4 x z).2⟩
      · exact .bd (w.mono (Le.upd fa) fun x m u e => by rw [upd_ne (fun z => na1 (by rw [← z]; exact m))]; exact e) (e5 od) fun x m z => nn x m (e4 x z).1
theorem Sim.lockZ (S : Sim K ω F G H ρ σ) {i : Nat} {ds : List (List Key × D)} (h1 : ω[i]? = some (.dct .fz)) (h2 : ρ[i]? = some (some (.dT ds))) :
    ∃ (a : Addr) (kvs : List (List Key × V)), σ[i]? = some (some (.ref a)) ∧ H a = some (.dT kvs) ∧ F a = none ∧
      ∀ od, Sim K (ω.set i .fz) (upd F a (.frz od (.dT kvs))) G (upd H a (.frz od (.dT kvs))) (ρ.set i (some (.dZ ds))) σ := by
  obtain ⟨⟨fp, o, n⟩, l, g, dj⟩ := S
  obtain ⟨a, kvs, fp', e1, e2, e3, e4, e5⟩ := o.lockZ h1 h2 fun x m => (n x m).1
  obtain ⟨fa, ga⟩ := n a e2
  refine ⟨a, kvs, e1, e3, fa, fun od => ⟨⟨fp', e5 od, fun x m => ?_⟩, l.both, fun x u e => ?_, ⟨fun x q => ?_, dj.2⟩⟩⟩
  · obtain ⟨m1, m2⟩ := e4 x m
    rw [upd_ne m2]
    exact n x m1
  · exact g.upd ga e3 trivial x u e
  · rw [upd_ne (fun z => q (by rw [z]; exact ga))]
    exact dj.1 x q
end
/-- the dict at slot i is locked from here on -/
def lockM (i : Nat) (m : M Fl) : M Fl := fun ρ => match ρ[i]? with
  | some (some (.dT ds)) => m (ρ.set i (some (.dZ ds)))
  | _ => .no
@[simp] theorem s_lock {i : Nat} {m : M Fl} {ρ : Rho} : lockM i m ρ = (match ρ[i]? with | some (some (.dT ds)) => m (ρ.set i (some (.dZ ds))) | _ => .no) := rfl
section
variable {X : Cx} {W : WX} {C : Sx} {ω ω' : List Sh} {pos : Pos} {a b c e : Expr}
theorem dss_lock {m : M Fl} {sts : List Stmt} {i : Nat} (h1 : ω[i]? = some (.dct .fz)) (h : DSs X C (ω.set i .fz) sts ω' m) : DSs X C ω sts ω' (lockM i m) := by
  refine ⟨fun pins s σ H D I q => ?_⟩
  obtain ⟨F, G, ρ, S, q⟩ := q
  unfold lockM at q
  split at q
  · rename_i ds h2
    obtain ⟨a, kvs, _, ha, fa, SZ⟩ := S.lockZ h1 h2
    obtain ⟨od, I1⟩ := I.lock ha trivial
    have l : Le F (upd F a (.frz od (.dT kvs))) := Le.upd fa
    exact h.run pins s σ _ D I1 ⟨_, G, _, SZ od, Res.sat_mono q (fun _ _ z => z.le l) fun _ _ z => z.le l⟩
  · exact q.elim
/-- a key's tuple as data -/
def keyDt : Key → D
  | .inl i => .int i
  | .inr x => .str x
def keysL (ds : List (List Key × D)) : List D := ds.map fun kv => .tup (kv.1.map keyDt)
theorem rds_keys {K : Fg} {F : Hp} : ∀ ks : List Key, RDs K F (ks.map kV) (ks.map keyDt)
  | [] => .nil
  | .inl i :: ks => .cons (.int i) (rds_keys ks)
  | .inr x :: ks => .cons (.str x) (rds_keys ks)
theorem walks_dZ {K : Fg} {F : Hp} {p : Addr} {o : Obj} {kvs : List (List Key × V)} {ds : List (List Key × D)} (h : F p = some (.frz o (.dT kvs))) (e : kvs.map (·.1) = ds.map (·.1)) : Walks K F (Itkt p o kvs) (keysL ds) where
  go F' H i l l2 hi := by
    unfold keysL at hi
    rw [List.length_map] at hi
    exact ⟨l2 _ _ (l _ _ h), by rw [keys_len e]; exact hi⟩
  yld F' H i x H' d l l2 ed y := by
    obtain ⟨rfl, k, v, q, hk, rfl, hq⟩ := y
    have e2 : (ds.map (·.1))[i]? = some k := by rw [← e, List.getElem?_map, hk]; rfl
    rw [List.getElem?_map] at e2
    unfold keysL at ed
    rw [List.getElem?_map] at ed
    cases eds : ds[i]? with
    | none => rw [eds] at ed; cases ed
    | some kd =>
      rw [eds] at ed e2
      cases ed
      have e3 : kd.1 = k := Option.some.inj e2
      show ∃ F'', Gr F' H' F'' H' ∧ RD K F'' (V.ref q) (.tup (kd.1.map keyDt))
      rw [e3]
      cases fq : F' q with
      | some u =>
        have := l2 q u fq
        rw [hq] at this
        cases this
        exact ⟨F', Gr.refl l2, .tup fq (rds_keys k)⟩
      | none =>
        refine ⟨upd F' q (.tup (k.map kV)), ⟨Le.upd fq, Le.refl _, fun a u ea => ?_, fun a fa hn ht => ?_⟩, .tup upd_same (rds_keys k)⟩
        · by_cases z : a = q
          · subst z
            rw [upd_same] at ea
            cases ea
            exact hq
          · rw [upd_ne z] at ea
            exact l2 a u ea
        · rw [upd_ne (fun z => ht _ (by rw [z]; exact hq))]
          exact fa
  stop F' H l l2 := by
    unfold keysL
    rw [List.length_map]
    exact ⟨l2 _ _ (l _ _ h), Nat.le_of_eq (keys_len e)⟩
def seqZ : D → Option (List D)
  | .dZ ds => some (keysL ds)
  | _ => none
def seqOfZ (m : M D) : M (List D) := bindM m fun d => liftO (seqZ d)
@[simp] theorem s_seqOfZ {m : M D} {ρ : Rho} : seqOfZ m ρ = (bindM m fun d => liftO (seqZ d)) ρ := rfl
@[simp] theorem s_seqZ {ds : List (List Key × D)} : seqZ (.dZ ds) = some (keysL ds) := rfl
/-- the keys of a locked dict -/
theorem di_keysZ {tg l : Expr} {m : M D} (h : DE X W ω l .fz m) : DI X W ω tg l (seqOfZ m) :=
  PI.imp (pi_keys h) fun σ H R ⟨F, G, ρ, S, q⟩ => by
    refine ⟨F, G, ρ, S, Res.sat_mono (Res.sat_bind q) (fun d ρ1 p v F1 H1 l S1 => ?_) fun _ _ z => z⟩
    obtain ⟨r, S2⟩ := S1.top
    unfold seqZ at p
    cases r with
    | dZ h e1 r => exact ⟨_, _, rfl, .inr ⟨_, S2.fH _ _ h, p _ F1 H1 l S2 (walks_dZ h e1)⟩⟩
    | _ => exact p.elim
/-! ### ranges with a step -/
noncomputable def rng3 : List D → Option (List D)
  | [.int i, .int j, .int c] => open Classical in if RgC i j c (Builtin.Range.rangeSize i j c).toNat then some ((List.range (Builtin.Range.rangeSize i j c).toNat).map fun (k : Nat) => D.int (i + (k : Int) * c)) else none
  | _ => none
theorem walks_rngC {K : Fg} {F : Hp} (lo c : Int) (n : Nat) : Walks K F (Itc lo c n) ((List.range n).map fun (k : Nat) => D.int (lo + (k : Int) * c)) where
  go F' H i l l2 hi := by rw [List.length_map, List.length_range] at hi; exact hi
  yld F' H i x H' d l l2 e y := by
    obtain ⟨rfl, rfl⟩ := y
    rw [List.getElem?_map] at e
    cases q : (List.range n)[i]? with
    | none => rw [q] at e; cases e
    | some k =>
      have hk : k = i := by
        have := List.getElem?_eq_some_iff.mp q
        obtain ⟨h, q⟩ := this
        rw [List.getElem_range] at q
        exact q.symm
      subst hk
      rw [q] at e
      cases e
      exact ⟨F', Gr.refl l2, .int _⟩
  stop F' H l l2 := by rw [List.length_map, List.length_range]; exact Nat.le_refl _
theorem di_rng3 {tg e1 e2 e3 : Expr} {ms : M (List D)} {p : Pos} (hg : Gl X "range") (hm : X.mg "range" = none) (ha : DA X W ω [e1, e2, e3] ms)
    (hs : starEach [e1, e2, e3] X.env = (false, eval e1 X.env) :: starEach [e2, e3] X.env := by rfl) (hpl : (backTo pos (starEach [e2, e3] X.env)).any (·.1) = false := by rfl) :
    DI X W ω tg (.Call (.Name "range" p) [e1, e2, e3] [] pos) (ofArgs rng3 ms) :=
  PI.imp (pi_range3 hg hm ha hs hpl) fun σ H R ⟨F, G, ρ, S, q⟩ => by
    refine ⟨F, G, ρ, S, Res.sat_mono (Res.sat_bind q) (fun ds ρ1 p vs F1 H1 l S1 rs => ?_) fun _ _ z => z⟩
    unfold rng3 at p
    split at p
    · rename_i i j c
      split at p
      · rename_i hc
        cases rs with
        | cons r rs =>
          cases rs with
          | cons r2 rs =>
            cases rs with
            | cons r3 rs =>
              cases rs
              cases r; cases r2; cases r3
              exact ⟨i, j, c, _, rfl, hc, p _ F1 H1 l S1 (walks_rngC i c _)⟩
      · exact p.elim
    · exact p.elim
end
end DL
/-! DL: what the worth is, step by step: rewriting rules. -/
namespace DL
open PySem
variable {α β : Type} {ρ ρ1 : Rho} {m m1 m2 m3 : M D} {ms : M (List D)} {d : D} {i j : Int}
@[simp] theorem s_bind {m : M α} {f : α → M β} : bindM m f ρ = (match m ρ with | .ok a ρ1 => f a ρ1 | .exc e ρ1 => .exc e ρ1 | .no => .no) := rfl
@[simp] theorem s_pure {a : α} : pureM a ρ = .ok a ρ := rfl
@[simp] theorem s_fail : (failM : M α) ρ = .no := rfl
@[simp] theorem s_get {i : Nat} : getV i ρ = (match ρ[i]? with | some (some d) => .ok d ρ | _ => .no) := rfl
@[simp] theorem s_lift {a : α} : liftO (some a) ρ = .ok a ρ := rfl
@[simp] theorem s_liftN : liftO (none : Option α) ρ = .no := rfl
@[simp] theorem s_liftI {c : Prop} [Decidable c] {x y : Option α} : liftO (if c then x else y) ρ = if c then liftO x ρ else liftO y ρ := by split <;> rfl
@[simp] theorem s_bin {g : D → D → Option D} : bin g m1 m2 ρ = (bindM m1 fun x => bindM m2 fun y => liftO (g x y)) ρ := rfl
@[simp] theorem s_un {g : D → Option D} : un1 g m1 ρ = (bindM m1 fun x => liftO (g x)) ρ := rfl
@[simp] theorem s_app {g : List D → Option D} : appM g ms ρ = (bindM ms fun ds => liftO (g ds)) ρ := rfl
@[simp] theorem s_cons : consM m ms ρ = (bindM m fun d => bindM ms fun ds => pureM (d :: ds)) ρ := rfl
@[simp] theorem s_nil : nilM ρ = .ok [] ρ := rfl
@[simp] theorem s_if {c : M Bool} {t e : M α} : ifM c t e ρ = (bindM c fun b => if b = true then t else e) ρ := rfl
@[simp] theorem s_seq {m k : M Fl} : seqM m k ρ = (match m ρ with | .ok .nx ρ1 => k ρ1 | r => r) := rfl
@[simp] theorem s_next : nextM ρ = .ok .nx ρ := rfl
@[simp] theorem s_tru : truM m ρ = (bindM m fun d => liftO (truD d)) ρ := rfl
@[simp] theorem s_notT {m : M Bool} : notT m ρ = (bindM m fun b => pureM (!b)) ρ := rfl
@[simp] theorem s_notM : notM m ρ = (bindM m fun d => liftO ((truD d).map fun k => .bl !k)) ρ := rfl
@[simp] theorem s_andT {m k : M Bool} : andT m k ρ = (bindM m fun b => if b = true then k else pureM false) ρ := rfl
@[simp] theorem s_orT {m k : M Bool} : orT m k ρ = (bindM m fun b => if b = true then pureM true else k) ρ := rfl
@[simp] theorem s_andM {k : M D} : andM m k ρ = (bindM m fun d => bindM (liftO (truD d)) fun t => if t = true then k else pureM d) ρ := rfl
@[simp] theorem s_orM {k : M D} : orM m k ρ = (bindM m fun d => bindM (liftO (truD d)) fun t => if t = true then pureM d else k) ρ := rfl
@[simp] theorem s_set {i : Nat} : setM i m ρ = (bindM m fun d ρ => .ok .nx (ρ.set i (some d))) ρ := rfl
@[simp] theorem s_ret : retM m ρ = (bindM m fun d => pureM (.rt d)) ρ := rfl
@[simp] theorem s_drop : dropM m ρ = (bindM m fun _ => nextM) ρ := rfl
@[simp] theorem s_asg {t : Tg} : asgM t m ρ = (bindM m fun d ρ => (match t d ρ with | some ρ1 => .ok .nx ρ1 | none => .no)) ρ := rfl
@[simp] theorem s_par {i j : Nat} : parM i j ms ρ = (bindM ms fun ds ρ => (match ds with | [x, y] => .ok .nx ((ρ.set i (some x)).set j (some y)) | _ => .no)) ρ := rfl
@[simp] theorem s_par3 {i j l : Nat} : parM3 i j l ms ρ = (bindM ms fun ds ρ => (match ds with | [x, y, z] => .ok .nx (((ρ.set i (some x)).set j (some y)).set l (some z)) | _ => .no)) ρ := rfl
@[simp] theorem s_aug {i : Nat} {g : D → D → Option D} : augM i g m ρ = (bindM (getV i) fun x => bindM m fun y => bindM (liftO (g x y)) fun z ρ => .ok .nx (ρ.set i (some z))) ρ := rfl
@[simp] theorem s_gset {i : Nat} : gSet i d ρ = some (ρ.set i (some d)) := rfl
@[simp] theorem s_gnil : gsNil [] ρ = some ρ := rfl
@[simp] theorem s_gcons {t : Tg} {ts : Tgs} {ds : List D} : gsCons t ts (d :: ds) ρ = (t d ρ).bind fun ρ1 => ts ds ρ1 := rfl
@[simp] theorem s_gunp {n : Nat} {ts : Tgs} {ds : List D} : gUnp n ts (.tup ds) ρ = if ds.length = n then ts ds ρ else none := rfl
@[simp] theorem s_chk {i : Nat} : chkM i ρ = (match ρ[i]? with | some (some (.lst xs)) => .ok .non ρ | _ => .no) := rfl
@[simp] theorem s_ixo {i : Nat} : ixoM i m ρ = (bindM (chkM i) fun _ => bindM m (atO i)) ρ := rfl
@[simp] theorem s_atO {i : Nat} {j : Int} : atO i (.int j) ρ = (match ρ[i]? with | some (some (.lst xs)) => (match L2.atI xs j with | some d => .ok d ρ | none => .no) | _ => .no) := rfl
@[simp] theorem s_setIx {i : Nat} {mk : M D} : setIxM i m mk ρ = (bindM m fun d => bindM (chkM i) fun _ => bindM mk fun k => updM i (putAt k d)) ρ := rfl
@[simp] theorem s_upd {i : Nat} {g : List D → Option (List D)} : updM i g ρ = (match ρ[i]? with | some (some (.lst xs)) => (match g xs with | some ys => .ok .nx (ρ.set i (some (.lst ys))) | none => .no) | _ => .no) := rfl
@[simp] theorem s_putAt {xs : List D} : putAt (.int j) d xs = (L2.ixN xs.length j).map fun n => xs.set n d := rfl
@[simp] theorem s_app' {i : Nat} : appM' i m ρ = (bindM (chkM i) fun _ => bindM m fun d => updM i (appO d)) ρ := rfl
@[simp] theorem s_for {t : Tg} {b : M Fl} : forS ms t b ρ = (bindM ms fun ds => DL.forM t b ds) ρ := rfl
@[simp] theorem s_ofArgs {g : List D → Option (List D)} : ofArgs g ms ρ = (bindM ms fun ds => liftO (g ds)) ρ := rfl
@[simp] theorem s_seqOf : seqOf m ρ = (bindM m fun d => liftO (seqD d)) ρ := rfl
@[simp] theorem s_yes : yesM ρ = .ok true ρ := rfl
@[simp] theorem s_noO : noO ρ = .ok none ρ := rfl
@[simp] theorem s_someO : someO m ρ = (bindM m fun d => liftO (intD d)) ρ := rfl
@[simp] theorem s_intD : intD (.int i) = some (some i) := rfl
@[simp] theorem s_slc {lo hi : MO} : slcM m lo hi ρ = (bindM m fun d => bindM lo fun l => bindM hi fun h => liftO (slcD d l h)) ρ := rfl
@[simp] theorem s_chain {g g' : D → D → Option D} : chainM g g' m1 m2 m3 ρ = (bindM m1 fun x => bindM m2 fun y => bindM (liftO (g x y)) fun t => (match t with | .bl true => bindM m3 fun z => liftO (g' y z) | .bl false => pureM (.bl false) | _ => failM)) ρ := rfl
@[simp] theorem s_chainT {g g' : D → D → Option Bool} : chainT g g' m1 m2 m3 ρ = (bindM m1 fun x => bindM m2 fun y => bindM (liftO (g x y)) fun t => if t = true then bindM m3 fun z => liftO (g' y z) else pureM false) ρ := rfl
@[simp] theorem s_gIntB {p : Int → Int → Bool} : gIntB p (.int i) (.int j) = some (p i j) := rfl
@[simp] theorem s_dinT {i : Nat} {neg : Bool} {mk : M D} : dinT i neg mk ρ = (bindM mk fun k ρ => (match getO i (fun o => some (.bl (o.isSome != neg))) k ρ with | .ok (.bl t) ρ' => .ok t ρ' | _ => .no)) ρ := rfl
@[simp] theorem s_getO {i : Nat} {g : Option D → Option D} {k : D} : getO i g k ρ = (match ρ[i]? with
  | some (some d) => (match dgetD d k with
    | some o => (match g o with
      | some r => .ok r ρ
      | none => .no)
    | none => .no)
  | _ => .no) := rfl
@[simp] theorem s_dino {i : Nat} {neg : Bool} {mk : M D} : dinoM i neg mk ρ = (bindM mk (getO i fun o => some (.bl (o.isSome != neg)))) ρ := rfl
@[simp] theorem s_dixo {i : Nat} {mk : M D} : dixoM i mk ρ = (bindM (chkD i) fun _ => bindM mk (getO i id)) ρ := rfl
@[simp] theorem s_dput {i : Nat} {mk : M D} : dputM i m mk ρ = (bindM m fun v => bindM (chkD i) fun _ => bindM mk fun k ρ => (match ρ[i]? with
  | some (some d) => (match dputD d k v with
    | some d' => .ok .nx (ρ.set i (some d'))
    | none => .no)
  | _ => .no)) ρ := rfl
@[simp] theorem s_mulAI : gMulA (.int i) (.int j) = if mulOk i j then some (.int (i * j)) else none := rfl
@[simp] theorem s_mulAL {xs : List D} : gMulA (.lst xs) d = gMul (.lst xs) d := rfl
@[simp] theorem s_mulAS {x : Str} : gMulA (.str x) d = gRepS (.str x) d := rfl
@[simp] theorem s_listA1 {xs : List D} : gListA [.lst xs] = some (.lst xs) := rfl
@[simp] theorem s_listA2 {xs : List D} : gListA [.tup xs] = some (.lst xs) := rfl
@[simp] theorem s_listA3 {x : Str} : gListA [.str x] = if x.cps.size ≤ sizeLine then some (.lst (signs x)) else none := rfl
@[simp] theorem s_fldSet {i : Nat} {cs : List Str} {f : Str} : fldSetM i cs f m ρ = (bindM m fun d ρ => (match ρ[i]? with
  | some (some (.ins C fs)) => if cs.contains C = true ∧ fs.length < 1000 then .ok .nx (ρ.set i (some (.ins C (putD f d fs)))) else .no
  | _ => .no)) ρ := rfl
@[simp] theorem s_fldo {i : Nat} {cs : List Str} {f : Str} : fldoM i cs f ρ = (match ρ[i]? with
  | some (some (.ins C fs)) => if cs.contains C = true then (match fs.lookup f with | some d => .ok d ρ | none => .no) else .no
  | _ => .no) := rfl
@[simp] theorem s_make {C : Str} {np : Nat} {g : List D → Res D} : makeM C np g ms ρ = (bindM ms fun ds => if ds.length = np then ofMade (g (.ins C [] :: ds)) else failM) ρ := rfl
@[simp] theorem s_ofMade {σ : Rho} {d : D} : ofMade (.ok .non (some d :: [])) ρ = .ok d ρ := rfl
def methK (C m' : Str) (np : Nat) (g : List D → Res D) (ms : M (List D)) (d : D) : M D := match d with
  | .ins C' fs => if C' = C ∧ fs.lookup m' = none then bindM ms fun ds => if (d :: ds).length = np then ofRes (g (d :: ds)) else failM else failM
  | _ => failM
@[simp] theorem s_meth {C m' : Str} {np : Nat} {g : List D → Res D} : methM C m' np g m ms ρ = (bindM m (methK C m' np g ms)) ρ := rfl
theorem methK_ins {C m' : Str} {np : Nat} {g : List D → Res D} {fs : List (Str × D)} (h : fs.lookup m' = none) : methK C m' np g ms (.ins C fs) ρ = (bindM ms fun ds => if ds.length + 1 = np then ofRes (g (.ins C fs :: ds)) else failM) ρ := by
  unfold methK
  dsimp only
  rw [if_pos ⟨rfl, h⟩]; rfl
@[simp] theorem s_join : joinM m1 m2 ρ = (bindM m1 fun d => (match d with
  | .str x => bindM m2 fun l => liftO (gJoin x l)
  | _ => failM)) ρ := rfl
@[simp] theorem s_lcM2 {vs vs1 : List Nat} {ms mi : M (List D)} {t t1 : Tg} {tt tt1 : M Bool} {te : M D} : lcM2 vs vs1 ms t tt mi t1 tt1 te ρ = (bindM ms fun ds ρ => (match lcB vs vs1 t tt mi t1 tt1 te ds (wipeR ρ vs) with
  | .ok ys ρ' => if ys.length ≤ sizeLine then .ok (.lst ys) (restR ρ ρ' vs) else .no
  | _ => .no)) ρ := rfl
@[simp] theorem s_star : starM m ms ρ = (bindM m fun d => bindM (liftO (seqD d)) fun xs => bindM ms fun ys => pureM (xs ++ ys)) ρ := rfl
@[simp] theorem s_met {T : String} {g : D → List D → Option D} : metM' T g m ms ρ = (bindM m fun d => if tyD T d = true then bindM ms fun ds => liftO (g d ds) else failM) ρ := rfl
@[simp] theorem s_call {np : Nat} {dds : List D} {g : List D → Res D} : callM np dds g ms ρ = (bindM ms fun ds => if (ds ++ dds).length = np then ofRes (g (ds ++ dds)) else failM) ρ := rfl
@[simp] theorem s_ofOk {σ : Rho} : ofRes (.ok d σ) ρ = .ok d ρ := rfl
@[simp] theorem s_callP {np i : Nat} {dds : List D} {g : List D → Res D} : callP np dds g i ms ρ = (bindM (chkM i) fun _ => bindM ms fun ds ρ => (match ρ[i]? with
  | some (some (.lst xs)) => if (ds ++ dds).length = np then (match g (.lst xs :: (ds ++ dds)) with
    | .ok d [some y] => .ok d (ρ.set i (some y))
    | _ => .no) else .no
  | _ => .no)) ρ := rfl
@[simp] theorem s_runB {n : Nat} {shs : List Sh} {thru : Bool} {b : M Fl} {ds : List D} : runB n shs thru b ds = (match b (ds.map some ++ List.replicate (n - ds.length) none) with
  | .ok (.rt d) ρ => .ok d (keep shs ρ)
  | .ok .nx ρ => if thru = true then .ok .non (keep shs ρ) else .no
  | .exc e _ => .exc e []
  | _ => .no) := rfl
@[simp] theorem s_keep0 : keep [] ρ = [] := rfl
@[simp] theorem s_keepP {x : Option D} : keep [.lst .fz] (x :: ρ) = [x] := rfl
@[simp] theorem s_byIx {ix : List Nat} {xs : List D} : byIx ix xs = ix.filterMap fun i => xs[i]? := rfl
/-! operators -/
@[simp] theorem s_gInt {p : Int → Int → Bool} : gInt p (.int i) (.int j) = some (.bl (p i j)) := rfl
@[simp] theorem s_addI : gAdd (.int i) (.int j) = some (.int (i + j)) := rfl
@[simp] theorem s_addL {xs ys : List D} : gAdd (.lst xs) (.lst ys) = if xs.length + ys.length ≤ sizeLine then some (.lst (xs ++ ys)) else none := rfl
@[simp] theorem s_addT {xs ys : List D} : gAdd (.tup xs) (.tup ys) = if xs.length + ys.length ≤ sizeLine then some (.tup (xs ++ ys)) else none := rfl
@[simp] theorem s_addS {x y : Str} : gAdd (.str x) (.str y) = if x.length + y.length ≤ sizeLine then some (.str (x ++ y)) else none := rfl
@[simp] theorem s_iaddI : gAddI (.int i) (.int j) = some (.int (i + j)) := rfl
@[simp] theorem s_subI : gSubI (.int i) (.int j) = some (.int (i - j)) := rfl
@[simp] theorem s_mulI : gMul (.int i) (.int j) = if mulOk i j then some (.int (i * j)) else none := rfl
@[simp] theorem s_modI : gMod (.int i) (.int j) = if j ≠ 0 then some (.int (i.fmod j)) else none := rfl
@[simp] theorem s_divI : gDivW (.int i) (.int j) = if divOk j then some (.int (i.fdiv j)) else none := rfl
@[simp] theorem s_powI : gPow (.int i) (.int j) = if 0 ≤ j ∧ j ≤ 1000000 ∧ i.natAbs < 2 ^ 64 then some (.int (i ^ j.toNat)) else none := rfl
@[simp] theorem s_neg : gNeg (.int i) = some (.int (-i)) := rfl
@[simp] theorem s_truI : truD (.int i) = some (i != 0) := rfl
@[simp] theorem s_truB {b : Bool} : truD (.bl b) = some b := rfl
@[simp] theorem s_truN : truD .non = some false := rfl
@[simp] theorem s_truL {xs : List D} : truD (.lst xs) = some (!xs.isEmpty) := rfl
@[simp] theorem s_truT {xs : List D} : truD (.tup xs) = some (!xs.isEmpty) := rfl
@[simp] theorem s_ixL {xs : List D} : gIx (.lst xs) (.int i) = L2.atI xs i := rfl
@[simp] theorem s_ixT {xs : List D} : gIx (.tup xs) (.int i) = L2.atI xs i := rfl
@[simp] theorem s_tup {ds : List D} : DL.gTup ds = if ds.length ≤ sizeLine then some (.tup ds) else none := rfl
@[simp] theorem s_lst {ds : List D} : DL.gLst ds = if ds.length ≤ sizeLine then some (.lst ds) else none := rfl
@[simp] theorem s_seqL {xs : List D} : seqD (.lst xs) = some xs := rfl
@[simp] theorem s_seqT {xs : List D} : seqD (.tup xs) = some xs := rfl
@[simp] theorem s_seqC {xs : List D} : seqD (.scr xs) = some xs := rfl
@[simp] theorem s_intI : gIntC [.int i] = some (.int i) := rfl
@[simp] theorem s_intB {b : Bool} : gIntC [.bl b] = some (.int (if b then 1 else 0)) := rfl
@[simp] theorem s_abs : gAbs [.int i] = some (.int (if i < 0 then -i else i)) := rfl
@[simp] theorem s_lenL {xs : List D} : DL.gLen [.lst xs] = some (.int xs.length) := rfl
@[simp] theorem s_lenT {xs : List D} : DL.gLen [.tup xs] = some (.int xs.length) := rfl
@[simp] theorem s_lenC {xs : List D} : DL.gLen [.scr xs] = some (.int xs.length) := rfl
@[simp] theorem s_all {xs : List D} : gAll [.lst xs] = (blsD xs).map fun bs => .bl (bs.all id) := rfl
@[simp] theorem s_any {xs : List D} : gAny [.lst xs] = (blsD xs).map fun bs => .bl (bs.any id) := rfl
@[simp] theorem s_bls0 : blsD [] = some [] := rfl
@[simp] theorem s_bls1 {b : Bool} {xs : List D} : blsD (.bl b :: xs) = (blsD xs).map (b :: ·) := rfl
@[simp] theorem s_slT {xs : List D} {lo hi : Option Int} : slcD (.tup xs) lo hi = some (.tup (cutD xs lo hi)) := rfl
@[simp] theorem s_slL {xs : List D} {lo hi : Option Int} : slcD (.lst xs) lo hi = some (.lst (cutD xs lo hi)) := rfl
@[simp] theorem s_slC {xs : List D} {lo hi : Option Int} : slcD (.scr xs) lo hi = some (.lst (cutD xs lo hi)) := rfl
@[simp] theorem s_lcM {vs : List Nat} {mi : M (List D)} {t : Tg} {tt : M Bool} {te : M D} : lcM vs mi t tt te ρ = (bindM mi fun ds ρ =>
  if ds.length ≤ sizeLine then (match lcL vs t tt te ds (wipeR ρ vs) with
    | .ok ys ρ' => .ok (.lst ys) (restR ρ ρ' vs)
    | _ => .no) else .no) ρ := rfl
@[simp] theorem s_lc0 {vs : List Nat} {t : Tg} {tt : M Bool} {te : M D} : lcL vs t tt te [] ρ = .ok [] ρ := rfl
@[simp] theorem s_lc1 {vs : List Nat} {t : Tg} {tt : M Bool} {te : M D} {ds : List D} : lcL vs t tt te (d :: ds) ρ = (match t d ρ with
  | none => .no
  | some ρ1 => match tt ρ1 with
    | .ok true ρ2 => (match te ρ2 with
      | .ok y ρ3 => (match lcL vs t tt te ds (wipeR ρ3 vs) with
        | .ok ys ρ4 => .ok (y :: ys) ρ4
        | _ => .no)
      | _ => .no)
    | .ok false ρ2 => lcL vs t tt te ds (wipeR ρ2 vs)
    | _ => .no) := rfl
@[simp] theorem s_wipe0 : wipeR ρ [] = ρ := rfl
@[simp] theorem s_wipe1 {v : Nat} {vs : List Nat} : wipeR ρ (v :: vs) = (wipeR ρ vs).set v none := rfl
@[simp] theorem s_rest0 {ρ0 : Rho} : restR ρ0 ρ [] = ρ := rfl
@[simp] theorem s_rest1 {ρ0 : Rho} {v : Nat} {vs : List Nat} : restR ρ0 ρ (v :: vs) = (restR ρ0 ρ vs).set v (ρ0.getD v none) := rfl
@[simp] theorem s_forN {t : Tg} {b : M Fl} : DL.forM t b [] ρ = .ok .nx ρ := rfl
@[simp] theorem s_forC {t : Tg} {b : M Fl} {ds : List D} : DL.forM t b (d :: ds) ρ = (match t d ρ with
  | none => .no
  | some ρ1 => match b ρ1 with
    | .ok .nx ρ2 => DL.forM t b ds ρ2
    | .ok .ct ρ2 => DL.forM t b ds ρ2
    | .ok .bk ρ2 => .ok .nx ρ2
    | r => r) := rfl
@[simp] theorem s_isi_int_int : isiD "int" (.int i) = some (.bl true) := by rfl
@[simp] theorem s_isi_int_bl {b : Bool} : isiD "int" (.bl b) = some (.bl true) := by rfl
@[simp] theorem s_isi_int_str {x : Str} : isiD "int" (.str x) = some (.bl false) := by rfl
@[simp] theorem s_isi_int_tup {xs : List D} : isiD "int" (.tup xs) = some (.bl false) := by rfl
@[simp] theorem s_isi_int_lst {xs : List D} : isiD "int" (.lst xs) = some (.bl false) := by rfl
@[simp] theorem s_isi_int_non : isiD "int" (.non) = some (.bl false) := by rfl
@[simp] theorem s_isi_bool_int : isiD "bool" (.int i) = some (.bl false) := by rfl
@[simp] theorem s_isi_bool_bl {b : Bool} : isiD "bool" (.bl b) = some (.bl true) := by rfl
@[simp] theorem s_isi_bool_str {x : Str} : isiD "bool" (.str x) = some (.bl false) := by rfl
@[simp] theorem s_isi_bool_tup {xs : List D} : isiD "bool" (.tup xs) = some (.bl false) := by rfl
@[simp] theorem s_isi_bool_lst {xs : List D} : isiD "bool" (.lst xs) = some (.bl false) := by rfl
@[simp] theorem s_isi_bool_non : isiD "bool" (.non) = some (.bl false) := by rfl
@[simp] theorem s_isi_tuple_int : isiD "tuple" (.int i) = some (.bl false) := by rfl
@[simp] theorem s_isi_tuple_bl {b : Bool} : isiD "tuple" (.bl b) = some (.bl false) := by rfl
@[simp] theorem s_isi_tuple_str {x : Str} : isiD "tuple" (.str x) = some (.bl false) := by rfl
@[simp] theorem s_isi_tuple_tup {xs : List D} : isiD "tuple" (.tup xs) = some (.bl true) := by rfl
@[simp] theorem s_isi_tuple_lst {xs : List D} : isiD "tuple" (.lst xs) = some (.bl false) := by rfl
@[simp] theorem s_isi_tuple_non : isiD "tuple" (.non) = some (.bl false) := by rfl
@[simp] theorem s_isi_list_int : isiD "list" (.int i) = some (.bl false) := by rfl
@[simp] theorem s_isi_list_bl {b : Bool} : isiD "list" (.bl b) = some (.bl false) := by rfl
@[simp] theorem s_isi_list_str {x : Str} : isiD "list" (.str x) = some (.bl false) := by rfl
@[simp] theorem s_isi_list_tup {xs : List D} : isiD "list" (.tup xs) = some (.bl false) := by rfl
@[simp] theorem s_isi_list_lst {xs : List D} : isiD "list" (.lst xs) = some (.bl true) := by rfl
@[simp] theorem s_isi_list_non : isiD "list" (.non) = some (.bl false) := by rfl
@[simp] theorem s_isi_str_int : isiD "str" (.int i) = some (.bl false) := by rfl
@[simp] theorem s_isi_str_bl {b : Bool} : isiD "str" (.bl b) = some (.bl false) := by rfl
@[simp] theorem s_isi_str_str {x : Str} : isiD "str" (.str x) = some (.bl true) := by rfl
@[simp] theorem s_isi_str_tup {xs : List D} : isiD "str" (.tup xs) = some (.bl false) := by rfl
@[simp] theorem s_isi_str_lst {xs : List D} : isiD "str" (.lst xs) = some (.bl false) := by rfl
@[simp] theorem s_isi_str_non : isiD "str" (.non) = some (.bl false) := by rfl
@[simp] theorem s_gunpk {n : Nat} {ts : Tgs} {ds : List D} : gUnp n ts (.ktup ds) ρ = if ds.length = n then ts ds ρ else none := rfl
@[simp] theorem s_truTk {xs : List D} : truD (.ktup xs) = some (!xs.isEmpty) := rfl
@[simp] theorem s_ixTk {xs : List D} : gIx (.ktup xs) (.int i) = L2.atI xs i := rfl
@[simp] theorem s_seqTk {xs : List D} : seqD (.ktup xs) = some xs := rfl
@[simp] theorem s_lenTk {xs : List D} : DL.gLen [.ktup xs] = some (.int xs.length) := rfl
@[simp] theorem s_isi_int_tupk {xs : List D} : isiD "int" (.ktup xs) = some (.bl false) := by rfl
@[simp] theorem s_isi_bool_tupk {xs : List D} : isiD "bool" (.ktup xs) = some (.bl false) := by rfl
@[simp] theorem s_isi_tuple_tupk {xs : List D} : isiD "tuple" (.ktup xs) = some (.bl true) := by rfl
@[simp] theorem s_isi_list_tupk {xs : List D} : isiD "list" (.ktup xs) = some (.bl false) := by rfl
@[simp] theorem s_isi_str_tupk {xs : List D} : isiD "str" (.ktup xs) = some (.bl false) := by rfl
@[simp] theorem s_seqOfA : seqOfA m ρ = (bindM m fun d => liftO (seqA d)) ρ := rfl
@[simp] theorem s_seqAL {xs : List D} : seqA (.lst xs) = some xs := rfl
@[simp] theorem s_seqAT {xs : List D} : seqA (.tup xs) = some xs := rfl
@[simp] theorem s_seqAC {xs : List D} : seqA (.scr xs) = some xs := rfl
@[simp] theorem s_seqAk {xs : List D} : seqA (.ktup xs) = some xs := rfl
@[simp] theorem s_seqAs {x : Str} : seqA (.str x) = some (signs x) := rfl
@[simp] theorem s_max2 : gMax2 [.int i, .int j] = some (.int (if j > i then j else i)) := rfl
@[simp] theorem s_min2 : gMin2 [.int i, .int j] = some (.int (if j < i then j else i)) := rfl
@[simp] theorem s_revL {xs : List D} : gRev (.lst xs) = some (.lst xs.reverse) := rfl
@[simp] theorem s_revC {xs : List D} : gRev (.scr xs) = some (.lst xs.reverse) := rfl
@[simp] theorem s_sumL {xs : List D} : gSum [.lst xs] = (intsD xs).map fun ns => .int ns.sum := rfl
@[simp] theorem s_alt1 {g g' : D → D → Option D} {x y r : D} (h : g x y = some r) : gAlt g g' x y = some r := by unfold gAlt; rw [h]
@[simp] theorem s_alt2 {g g' : D → D → Option D} {x y : D} (h : g x y = none) : gAlt g g' x y = g' x y := by unfold gAlt; rw [h]
theorem sz {n : Nat} (h : n ≤ 1000000) : n ≤ sizeLine := Nat.le_trans h (by decide)
@[simp] theorem s_sz : (sizeLine : Nat) = 16777216 := by decide
end DL
namespace DL
open PySem
section
variable {α : Type} {x0 x1 x2 x3 x4 x5 x6 x7 : α} {xs : List α}
@[simp] theorem s_at0 : L2.atI (x0 :: xs) 0 = some x0 := by
  unfold L2.atI L2.ixN
  rw [if_pos (by decide), if_pos (by rw [List.length_cons]; omega)]; rfl
theorem s_atN {n : Nat} (h : n < xs.length) : L2.atI xs n = xs[n]? := by
  unfold L2.atI L2.ixN
  rw [if_pos (by omega), if_pos (by omega)]; rfl
theorem atI_nat {i : Int} {y : α} (h0 : 0 ≤ i) (h : xs[i.toNat]? = some y) : L2.atI xs i = some y := by
  have hl : i.toNat < xs.length := (List.getElem?_eq_some_iff.mp h).1
  unfold L2.atI L2.ixN
  rw [if_pos h0, if_pos (by omega)]
  exact h
@[simp] theorem s_at1 : L2.atI (x0 :: x1 :: xs) 1 = some x1 := atI_nat (by decide) rfl
@[simp] theorem s_at2 : L2.atI (x0 :: x1 :: x2 :: xs) 2 = some x2 := atI_nat (by decide) rfl
@[simp] theorem s_at3 : L2.atI (x0 :: x1 :: x2 :: x3 :: xs) 3 = some x3 := atI_nat (by decide) rfl
@[simp] theorem s_at4 : L2.atI (x0 :: x1 :: x2 :: x3 :: x4 :: xs) 4 = some x4 := atI_nat (by decide) rfl
@[simp] theorem s_at5 : L2.atI (x0 :: x1 :: x2 :: x3 :: x4 :: x5 :: xs) 5 = some x5 := atI_nat (by decide) rfl
@[simp] theorem s_ix30 : L2.ixN 3 0 = some 0 := rfl
@[simp] theorem s_ix31 : L2.ixN 3 1 = some 1 := rfl
@[simp] theorem s_ix32 : L2.ixN 3 2 = some 2 := rfl
end
theorem fmod_pos {a b : Int} (h : 0 < b) : a.fmod b = a % b := Int.fmod_eq_emod_of_nonneg a (Int.le_of_lt h)
theorem fdiv_pos {a b : Int} (h : 0 < b) : a.fdiv b = a / b := Int.fdiv_eq_ediv_of_nonneg a (Int.le_of_lt h)
theorem divOk_of {m : Int} (h : 0 < m) (h2 : m < 18446744073709551616) : divOk m = true := by
  unfold divOk
  rw [Bool.or_eq_true]
  right
  have h3 : m.natAbs < 2 ^ 64 := by omega
  exact decide_eq_true ⟨h, Nat.lt_of_lt_of_le h3 (Nat.pow_le_pow_right (by decide) (by decide))⟩
theorem pick_at {cs : List Int} (h : cs ≠ []) (a : Int) : ∃ c, L2.atI (cs.map D.int) (a % cs.length) = some (.int c) := by
  have hl : 0 < (cs.length : Int) := by
    have := List.length_pos_iff.mpr h
    omega
  have h1 := Int.emod_nonneg a (Int.ne_of_gt hl)
  have h2 := Int.emod_lt_of_pos a hl
  have h3 : (a % (cs.length : Int)).toNat < cs.length := by omega
  exact ⟨cs[(a % (cs.length : Int)).toNat], atI_nat h1 (by rw [List.getElem?_map, List.getElem?_eq_getElem h3]; rfl)⟩
end DL
/-! DL: texts and equality of plain data. -/
namespace DL
open PySem
mutual
/-- None, bools, ints of at most sixty digits, tuples and lists of these -/
def inB : D → Bool
  | .non => true
  | .bl _ => true
  | .int i => decide (i.natAbs < 1000000000000000000000000000000000000000000000000000000000000)
  | .tup xs => inBs xs
  | .ktup xs => inBs xs
  | .lst xs => inBs xs
  | _ => false
def inBs : List D → Bool
  | [] => true
  | x :: xs => inB x && inBs xs
end
mutual
def dpD : D → Nat
  | .tup xs => dpDs xs + 1
  | .ktup xs => dpDs xs + 1
  | .lst xs => dpDs xs + 1
  | _ => 0
def dpDs : List D → Nat
  | [] => 0
  | x :: xs => max (dpD x) (dpDs xs)
end
mutual
def wtD : D → Nat
  | .int _ => 201
  | .tup xs => wtDs xs
  | .ktup xs => wtDs xs
  | .lst xs => wtDs xs
  | _ => 0
def wtDs : List D → Nat
  | [] => 0
  | x :: xs => wtD x + 1 + wtDs xs
end
theorem small_bits {i : Int} (h : i.natAbs < 1000000000000000000000000000000000000000000000000000000000000) : i.natAbs.log2 < 200 := by
  by_cases h0 : i.natAbs = 0
  · rw [h0]; decide
  · exact (Nat.log2_lt h0).mpr (Nat.lt_trans h (by decide))
theorem small_text {i : Int} (h : i.natAbs < 1000000000000000000000000000000000000000000000000000000000000) : (PyData.shown (.int i)).length ≤ 61 := by
  have h1 := int_text_length_le10 (a := i) (k := 60) (by decide) (Nat.lt_of_lt_of_le h (by decide))
  have e : (PyData.shown (.int i)) = Str.ofString (toString i) := by simp only [PyData.shown]
  rw [e, Str.ofString_eq_toList]
  show (Array.size _) ≤ 61
  rw [List.size_toArray, List.length_map]
  exact h1
theorem small_chars (s : String) : PyData.strOk (Str.ofString s) = true := by
  rw [Str.ofString_eq_toList]
  unfold PyData.strOk
  simp only [Array.all_eq_true]
  intro i hi
  simp only [List.size_toArray, List.length_map] at hi
  simp only [List.getElem_toArray, List.getElem_map, decide_eq_true_eq]
  have := (s.toList[i]).valid
  rcases this with h | h
  · exact Nat.lt_of_lt_of_le h (by decide)
  · exact h.2
theorem strOk_app {x y : Str} (h : PyData.strOk x = true) (k : PyData.strOk y = true) : PyData.strOk (x ++ y) = true := by
  unfold PyData.strOk at h k ⊢
  show (Array.all (x.cps ++ y.cps) _) = true
  rw [Array.all_append, h, k]; rfl
theorem strOk_from : ∀ (ts : List Str) (k : Nat) (acc : Str), PyData.strOk acc = true → (∀ t ∈ ts, PyData.strOk t = true) → PyData.strOk (textFrom k acc ts) = true
  | [], k, acc, h, _ => h
  | t :: ts, k, acc, h, a => by
    show PyData.strOk (textFrom (k + 1) _ ts) = true
    refine strOk_from ts (k + 1) _ (strOk_app (strOk_app h ?_) (a t (List.mem_cons_self))) fun u m => a u (List.mem_cons_of_mem _ m)
    exact small_chars _
theorem strOk_list {ts : List Str} (a : ∀ t ∈ ts, PyData.strOk t = true) : PyData.strOk (listText ts) = true :=
  strOk_app (strOk_from ts 0 _ (small_chars "[") a) (small_chars "]")
theorem strOk_join : ∀ {ts : List Str}, (∀ t ∈ ts, PyData.strOk t = true) → PyData.strOk (Str.join ", " ts) = true
  | [], _ => small_chars ""
  | [x], a => a x (List.mem_cons_self)
  | x :: y :: r, a => by
    have ih := strOk_join (ts := y :: r) fun t m => a t (List.mem_cons_of_mem _ m)
    have e : Str.join ", " (x :: y :: r) = x ++ ", " ++ Str.join ", " (y :: r) := rfl
    rw [e]
    exact strOk_app (strOk_app (a x (List.mem_cons_self)) (small_chars ", ")) ih
theorem strOk_tuple {ts : List Str} (a : ∀ t ∈ ts, PyData.strOk t = true) : PyData.strOk (tupleText ts) = true := by
  unfold tupleText
  exact strOk_app (strOk_app (small_chars "(") (strOk_join a)) (small_chars _)
/-- all that is asked of a datum that is told -/
def AllT (d : D) : Prop := plainD d = true ∧ (toP d).showable = true ∧ (toP d).canLay0 = true ∧ (toP d).depth ≤ dpD d ∧ (toP d).leavesShort 61 = true ∧ (toP d).weight ≤ wtD d ∧ PyData.strOk (toP d).shown = true
def AllTs (ds : List D) : Prop := plainDs ds = true ∧ PyData.showableAll (toPs ds) = true ∧ PyData.canLayAll0 (toPs ds) = true ∧ PyData.depthAll (toPs ds) ≤ dpDs ds ∧ PyData.leavesShortAll 61 (toPs ds) = true ∧ PyData.weightAll (toPs ds) ≤ wtDs ds ∧ ∀ t ∈ PyData.shownAll (toPs ds), PyData.strOk t = true
mutual
theorem allT : ∀ d : D, inB d = true → AllT d
  | .non, _ => ⟨rfl, by simp [toP, PyData.showable], by simp [toP, PyData.canLay0], by simp [toP, PyData.depth], by simp [toP, PyData.leavesShort], by simp [toP, PyData.weight], by simp only [toP, PyData.shown]; exact small_chars _⟩
  | .bl b, _ => ⟨rfl, by simp [toP, PyData.showable], by simp [toP, PyData.canLay0], by simp [toP, PyData.depth], by simp [toP, PyData.leavesShort], by simp [toP, PyData.weight], by simp only [toP, PyData.shown]; cases b <;> exact small_chars _⟩
  | .int i, h => by
    have h : i.natAbs < 1000000000000000000000000000000000000000000000000000000000000 := of_decide_eq_true h
    have hb := small_bits h
    refine ⟨rfl, ?_, by simp [toP, PyData.canLay0], by simp [toP, PyData.depth], ?_, ?_, ?_⟩
    · simp only [toP, PyData.showable]; exact decide_eq_true (by omega)
    · simp only [toP, PyData.leavesShort]; exact decide_eq_true (small_text h)
    · simp only [toP, PyData.weight, wtD]
      split <;> omega
    · simp only [toP, PyData.shown]; exact small_chars _
  | .tup xs, h => by
    obtain ⟨a, b, c, d, e, f, g⟩ := allTs xs h
    refine ⟨a, by simpa [toP, PyData.showable] using b, by simpa [toP, PyData.canLay0] using c, by simpa [toP, PyData.depth, dpD] using d, by simpa [toP, PyData.leavesShort] using e, by simpa [toP, PyData.weight, wtD] using f, ?_⟩
    simp only [toP, PyData.shown]
    exact strOk_tuple g
  | .ktup xs, h => by
    obtain ⟨a, b, c, d, e, f, g⟩ := allTs xs h
    refine ⟨a, by simpa [toP, PyData.showable] using b, by simpa [toP, PyData.canLay0] using c, by simpa [toP, PyData.depth, dpD] using d, by simpa [toP, PyData.leavesShort] using e, by simpa [toP, PyData.weight, wtD] using f, ?_⟩
    simp only [toP, PyData.shown]
    exact strOk_tuple g
  | .lst xs, h => by
    obtain ⟨a, b, c, d, e, f, g⟩ := allTs xs h
    refine ⟨a, by simpa [toP, PyData.showable] using b, by simpa [toP, PyData.canLay0] using c, by simpa [toP, PyData.depth, dpD] using d, by simpa [toP, PyData.leavesShort] using e, by simpa [toP, PyData.weight, wtD] using f, ?_⟩
    simp only [toP, PyData.shown]
    exact strOk_list g
  | .str _, h => by cases h
  | .ty _, h => by cases h
  | .fn _ _, h => by cases h
  | .scr _, h => by cases h
  | .dK _, h => by cases h
  | .dT _, h => by cases h
  | .dZ _, h => by cases h
  | .ins _ _, h => by cases h
theorem allTs : ∀ ds : List D, inBs ds = true → AllTs ds
  | [], _ => ⟨rfl, by simp [toPs, PyData.showableAll], by simp [toPs, PyData.canLayAll0], by simp [toPs, PyData.depthAll], by simp [toPs, PyData.leavesShortAll], by simp [toPs, PyData.weightAll], by simp [toPs, PyData.shownAll]⟩
  | x :: xs, h => by
    have h : (inB x && inBs xs) = true := h
    rw [Bool.and_eq_true] at h
    obtain ⟨a, b, c, d, e, f, g⟩ := allT x h.1
    obtain ⟨a', b', c', d', e', f', g'⟩ := allTs xs h.2
    refine ⟨by show (plainD x && plainDs xs) = true; rw [a, a']; rfl, by simp [toPs, PyData.showableAll, b, b'], by simp [toPs, PyData.canLayAll0, c, c'], ?_, by simp [toPs, PyData.leavesShortAll, e, e'], ?_, ?_⟩
    · simp only [toPs, PyData.depthAll, dpDs]; omega
    · simp only [toPs, PyData.weightAll, wtDs]; omega
    · intro t ht
      simp only [toPs, PyData.shownAll, List.mem_cons] at ht
      rcases ht with rfl | ht
      · exact g
      · exact g' t ht
end
/-- a datum whose text may be asked, that may be compared -/
def okT (d : D) : Bool := inB d && (decide (dpD d ≤ 64) && decide (wtD d ≤ 200000))
theorem okT.parts {d : D} (h : okT d = true) : inB d = true ∧ dpD d ≤ 64 ∧ wtD d ≤ 200000 := by
  unfold okT at h
  simpa using h
theorem okT.show {d : D} (h : okT d = true) : showD d = true := by
  obtain ⟨h1, h2, h3⟩ := okT.parts h
  obtain ⟨a, b, c, e, f, g, _⟩ := allT d h1
  unfold showD
  have hl := PyData.shown_le 61 (by decide) (toP d) f
  have hs : (toP d).shown.length ≤ sizeLine := by
    have : sizeLine = 16777216 := by decide
    omega
  rw [a, b, decide_eq_true (Nat.le_trans e h2), decide_eq_true hs]; rfl
theorem okT.ok {d : D} (h : okT d = true) : okD d = true := by
  obtain ⟨h1, h2, h3⟩ := okT.parts h
  obtain ⟨a, b, c, e, f, g, _⟩ := allT d h1
  unfold okD SeqAt.shaped
  rw [a, c, decide_eq_true (Nat.le_trans e h2)]; rfl
/-- its text -/
def rp (d : D) : D := .str (toP d).shown
theorem gRepr_ok {d : D} (h : okT d = true) : gRepr [d] = some (rp d) := by
  show (if showD d = true then some (D.str (toP d).shown) else none) = _
  rw [if_pos (okT.show h)]; rfl
theorem rp_ok {d : D} (h : okT d = true) : okD (rp d) = true := by
  obtain ⟨_, _, _, _, _, _, g⟩ := allT d (okT.parts h).1
  unfold okD SeqAt.shaped rp
  simp [plainD, toP, PyData.canLay0, PyData.depth, g]
theorem eqD_self {d : D} (h : okD d = true) : eqD d d = true := by
  unfold okD SeqAt.shaped at h
  rw [Bool.and_eq_true, Bool.and_eq_true] at h
  exact SeqAt.eqv_refl _ h.2.1
theorem gNe_rp {d : D} (h : okT d = true) : gNe (rp d) (rp d) = some (.bl false) := by
  unfold gNe
  rw [rp_ok h, eqD_self (rp_ok h)]; rfl
theorem gEq_self {d : D} (h : okT d = true) : gEq d d = some (.bl true) := by
  unfold gEq
  rw [okT.ok h, eqD_self (okT.ok h)]; rfl
theorem gNe_self {d : D} (h : okT d = true) : gNe d d = some (.bl false) := by
  unfold gNe
  rw [okT.ok h, eqD_self (okT.ok h)]; rfl
end DL
namespace DL
open PySem
theorem ints_plain : ∀ cs : List Int, plainDs (cs.map .int) = true ∧ PyData.canLayAll0 (toPs (cs.map .int)) = true ∧ PyData.depthAll (toPs (cs.map .int)) = 0
  | [] => ⟨rfl, by simp [toPs, PyData.canLayAll0], by simp [toPs, PyData.depthAll]⟩
  | c :: cs => by
    obtain ⟨a, b, d⟩ := ints_plain cs
    refine ⟨?_, ?_, ?_⟩
    · show (plainD (.int c) && plainDs (cs.map .int)) = true
      rw [a]; rfl
    · simp only [List.map_cons, toPs, toP, PyData.canLayAll0, b, PyData.canLay0]; rfl
    · simp only [List.map_cons, toPs, toP, PyData.depthAll, d, PyData.depth]; rfl
theorem okD_ints (cs : List Int) : okD (.lst (cs.map .int)) = true := by
  obtain ⟨a, b, d⟩ := ints_plain cs
  unfold okD SeqAt.shaped
  have e : plainD (.lst (cs.map D.int)) = plainDs (cs.map D.int) := rfl
  rw [e, a]
  simp [toP, PyData.canLay0, b, PyData.depth, d]
theorem ne_nil (cs : List Int) : gNe (.lst (cs.map .int)) (.lst []) = some (.bl (!cs.isEmpty)) := by
  unfold gNe
  rw [okD_ints cs, show okD (.lst []) = true from okD_ints []]
  cases cs <;> simp [eqD, toP, toPs, PyData.eqv, PyData.eqvAll]
theorem mulOk_l {i j : Int} (h : i.natAbs < 18446744073709551616) : mulOk i j = true := by
  unfold mulOk
  rw [Bool.or_eq_true]
  exact .inl (decide_eq_true (by omega))
theorem mulOk_r {i j : Int} (h : j.natAbs < 18446744073709551616) : mulOk i j = true := by
  unfold mulOk
  rw [Bool.or_eq_true]
  exact .inr (decide_eq_true (by omega))
theorem powOk {i : Int} {k : Nat} (h : i.natAbs < 18446744073709551616) (hk : k ≤ 1000000) : gPow (.int i) (.int k) = some (.int (i ^ k)) := by
  show (if 0 ≤ (k : Int) ∧ (k : Int) ≤ 1000000 ∧ i.natAbs < 2 ^ 64 then some (D.int (i ^ (k : Int).toNat)) else none) = _
  rw [if_pos ⟨by omega, by omega, by omega⟩]
  rfl
end DL
namespace DL
theorem forM_inv {t : Tg} {b : M Fl} (Inv : Nat → Rho → Prop) : ∀ {ds : List D} {k : Nat} {ρ : Rho}, Inv k ρ → (∀ i d ρ, Inv i ρ → k ≤ i → i < k + ds.length → ds[i - k]? = some d → ∃ ρ1 ρ2, t d ρ = some ρ1 ∧ b ρ1 = .ok .nx ρ2 ∧ Inv (i + 1) ρ2) →
    ∃ ρ', DL.forM t b ds ρ = .ok .nx ρ' ∧ Inv (k + ds.length) ρ'
  | [], k, ρ, h, _ => ⟨ρ, rfl, h⟩
  | d :: ds, k, ρ, h, st => by
    obtain ⟨ρ1, ρ2, e1, e2, h2⟩ := st k d ρ h (Nat.le_refl _) (by rw [List.length_cons]; omega) (by rw [Nat.sub_self]; rfl)
    obtain ⟨ρ', e, h'⟩ := forM_inv Inv (ds := ds) (k := k + 1) h2 fun i d' ρ hi h1 h3 hd => st i d' ρ hi (by omega) (by rw [List.length_cons]; omega) (by
      have : i - k = (i - (k + 1)) + 1 := by omega
      rw [this]; simpa using hd)
    refine ⟨ρ', ?_, by rw [List.length_cons]; have e3 : k + (ds.length + 1) = k + 1 + ds.length := by omega
                       rw [e3]; exact h'⟩
    rw [s_forC, e1]
    dsimp only
    rw [e2]
    exact e
end DL
namespace DL
open PySem
theorem okD_int (i : Int) : okD (.int i) = true := by
  unfold okD SeqAt.shaped
  simp [plainD, toP, PyData.canLay0, PyData.depth]
theorem okD_bl (i : Bool) : okD (.bl i) = true := by
  unfold okD SeqAt.shaped
  simp [plainD, toP, PyData.canLay0, PyData.depth]
theorem eqD_int (i j : Int) : eqD (.int i) (.int j) = decide (i = j) := by
  show PyData.eqv (.int i) (.int j) = _
  rw [PyData.eqv]
  by_cases h : i = j <;> simp [h]
theorem eqD_bl (i j : Bool) : eqD (.bl i) (.bl j) = decide (i = j) := by
  show PyData.eqv (.bool i) (.bool j) = _
  rw [PyData.eqv]
  cases i <;> cases j <;> rfl
@[simp] theorem s_neI (i j : Int) : gNe (.int i) (.int j) = some (.bl (!decide (i = j))) := by
  unfold gNe
  rw [okD_int, okD_int, eqD_int]; rfl
@[simp] theorem s_eqI (i j : Int) : gEq (.int i) (.int j) = some (.bl (decide (i = j))) := by
  unfold gEq
  rw [okD_int, okD_int, eqD_int]; rfl
@[simp] theorem s_neB (i j : Bool) : gNe (.bl i) (.bl j) = some (.bl (!decide (i = j))) := by
  unfold gNe
  rw [okD_bl, okD_bl, eqD_bl]; rfl
@[simp] theorem s_eqB (i j : Bool) : gEq (.bl i) (.bl j) = some (.bl (decide (i = j))) := by
  unfold gEq
  rw [okD_bl, okD_bl, eqD_bl]; rfl
end DL
namespace DL
open PySem
/-! ### equality, part by part -/
theorem okD_tup {xs : List D} (h : okDs xs = true) (hd : (toP (.tup xs)).depth ≤ 64) : okD (.tup xs) = true := by
  unfold okDs SeqAt.shaped at h
  unfold okD SeqAt.shaped
  simp only [Bool.and_eq_true, decide_eq_true_eq] at h ⊢
  refine ⟨h.1, ?_, hd⟩
  have := h.2.1
  simpa [toP, PyData.canLay0] using this
theorem eqD_tup (xs ys : List D) : eqD (.tup xs) (.tup ys) = PyData.eqvAll (toPs xs) (toPs ys) := by
  show PyData.eqv (.tuple (toPs xs)) (.tuple (toPs ys)) = _
  rw [PyData.eqv]
theorem eqD_lst (xs ys : List D) : eqD (.lst xs) (.lst ys) = PyData.eqvAll (toPs xs) (toPs ys) := by
  show PyData.eqv (.list (toPs xs)) (.list (toPs ys)) = _
  rw [PyData.eqv]
theorem eqs_nil : PyData.eqvAll (toPs []) (toPs []) = true := by simp [toPs, PyData.eqvAll]
theorem eqs_cons (x y : D) (xs ys : List D) : PyData.eqvAll (toPs (x :: xs)) (toPs (y :: ys)) = (eqD x y && PyData.eqvAll (toPs xs) (toPs ys)) := by
  show PyData.eqvAll (toP x :: toPs xs) (toP y :: toPs ys) = _
  rw [PyData.eqvAll]; rfl
theorem gEq_ok {x y : D} (h : okT x = true) (k : okT y = true) : gEq x y = some (.bl (eqD x y)) := by
  unfold gEq
  rw [okT.ok h, okT.ok k]; rfl
theorem gNe_ok {x y : D} (h : okT x = true) (k : okT y = true) : gNe x y = some (.bl (!eqD x y)) := by
  unfold gNe
  rw [okT.ok h, okT.ok k]; rfl
end DL
namespace DL
theorem lc_inv {vs : List Nat} {t : Tg} {tt : M Bool} {te : M D} (Inv : Rho → Prop) (f : D → Option D) : ∀ {ds : List D} {ρ : Rho}, Inv ρ →
    (∀ d ∈ ds, ∀ ρ, Inv ρ → ∃ ρ1 ρ2 b, t d ρ = some ρ1 ∧ tt ρ1 = .ok b ρ2 ∧ ((b = false ∧ f d = none ∧ Inv (wipeR ρ2 vs)) ∨ (b = true ∧ ∃ y ρ3, te ρ2 = .ok y ρ3 ∧ f d = some y ∧ Inv (wipeR ρ3 vs)))) →
    ∃ ρ', lcL vs t tt te ds ρ = .ok (ds.filterMap f) ρ' ∧ Inv ρ'
  | [], ρ, h, _ => ⟨ρ, rfl, h⟩
  | d :: ds, ρ, h, st => by
    obtain ⟨ρ1, ρ2, b, e1, e2, h2⟩ := st d (List.mem_cons_self) ρ h
    rw [s_lc1, e1]
    dsimp only
    rw [e2]
    rcases h2 with ⟨rfl, ef, h3⟩ | ⟨rfl, y, ρ3, e3, ef, h3⟩
    · obtain ⟨ρ', e, h'⟩ := lc_inv Inv f (ds := ds) h3 fun d m => st d (List.mem_cons_of_mem _ m)
      exact ⟨ρ', by rw [List.filterMap_cons, ef]; exact e, h'⟩
    · obtain ⟨ρ', e, h'⟩ := lc_inv Inv f (ds := ds) h3 fun d m => st d (List.mem_cons_of_mem _ m)
      refine ⟨ρ', ?_, h'⟩
      dsimp only
      rw [e3]
      dsimp only
      rw [e, List.filterMap_cons, ef]
end DL
namespace DL
def intsI (lo : Int) (n : Nat) : List Int := (List.range n).map fun (i : Nat) => lo + (i : Int)
theorem intsFrom_map (lo : Int) (n : Nat) : DL.intsFrom lo n = (intsI lo n).map D.int := by
  unfold DL.intsFrom intsI
  rw [List.map_map]; rfl
theorem rng1_ok {n : Int} (h : -4611686018427387904 ≤ n ∧ n < 4611686018427387904) : rng1 [.int n] = some ((intsI 0 n.toNat).map D.int) := by
  show (if small n = true then some (DL.intsFrom 0 n.toNat) else none) = _
  rw [if_pos (small_of h.1 h.2), intsFrom_map]
theorem rng2_ok {a b : Int} (h : -4611686018427387904 ≤ a ∧ a < 4611686018427387904) (k : -4611686018427387904 ≤ b ∧ b < 4611686018427387904) : rng2 [.int a, .int b] = some ((intsI a (b - a).toNat).map D.int) := by
  have e : (small a && small b) = true := by rw [small_of h.1 h.2, small_of k.1 k.2]; rfl
  show (if (small a && small b) = true then some (DL.intsFrom a (b - a).toNat) else none) = _
  rw [if_pos e, intsFrom_map]
theorem intsI_len (lo : Int) (n : Nat) : (intsI lo n).length = n := by simp [intsI]
theorem mem_intsI {lo x : Int} {n : Nat} : x ∈ intsI lo n ↔ lo ≤ x ∧ x < lo + n := by
  unfold intsI
  rw [List.mem_map]
  constructor
  · rintro ⟨i, hi, rfl⟩
    rw [List.mem_range] at hi
    omega
  · intro h
    exact ⟨(x - lo).toNat, by rw [List.mem_range]; omega, by omega⟩
end DL
namespace DL
open PySem
theorem okD_str (s : String) : okD (.str (Str.ofString s)) = true := by
  unfold okD SeqAt.shaped
  simp [plainD, toP, PyData.canLay0, PyData.depth, small_chars]
end DL
/-! DL: typed values as data, and their equality. -/
namespace DL
open PySem
variable {α β γ δ : Type}
/-- typed values laid as data: plain, no deeper than n, == is = -/
structure EqE (n : Nat) [DecidableEq α] (e : α → D) : Prop where
  p : ∀ a, plainD (e a) = true
  c : ∀ a, (toP (e a)).canLay0 = true
  d : ∀ a, (toP (e a)).depth ≤ n
  q : ∀ a b, eqD (e a) (e b) = decide (a = b)
theorem EqE.ok {n : Nat} [DecidableEq α] {e : α → D} (h : EqE n e) (hn : n ≤ 64) (a : α) : okD (e a) = true := by
  unfold okD SeqAt.shaped
  rw [h.p, h.c, decide_eq_true (Nat.le_trans (h.d a) hn)]; rfl
theorem EqE.gEq {n : Nat} [DecidableEq α] {e : α → D} (h : EqE n e) (hn : n ≤ 64) (a b : α) : gEq (e a) (e b) = some (.bl (decide (a = b))) := by
  unfold DL.gEq
  rw [h.ok hn, h.ok hn, h.q]; rfl
theorem EqE.gNe {n : Nat} [DecidableEq α] {e : α → D} (h : EqE n e) (hn : n ≤ 64) (a b : α) : gNe (e a) (e b) = some (.bl (!decide (a = b))) := by
  unfold DL.gNe
  rw [h.ok hn, h.ok hn, h.q]; rfl
theorem eqe_int : EqE 0 D.int := ⟨fun _ => rfl, fun _ => by simp [toP, PyData.canLay0], fun _ => by simp [toP, PyData.depth], eqD_int⟩
theorem eqe_bl : EqE 0 D.bl := ⟨fun _ => rfl, fun _ => by simp [toP, PyData.canLay0], fun _ => by simp [toP, PyData.depth], eqD_bl⟩
section
variable {n m k : Nat} [DecidableEq α] [DecidableEq β] [DecidableEq γ] {e : α → D} {f : β → D} {g : γ → D}
theorem EqE.all (h : EqE n e) : ∀ xs : List α, plainDs (xs.map e) = true ∧ PyData.canLayAll0 (toPs (xs.map e)) = true ∧ PyData.depthAll (toPs (xs.map e)) ≤ n
  | [] => ⟨rfl, by simp [toPs, PyData.canLayAll0], by simp [toPs, PyData.depthAll]⟩
  | x :: xs => by
    obtain ⟨a, b, c⟩ := EqE.all h xs
    have d := h.d x
    refine ⟨by show (plainD _ && plainDs (xs.map e)) = true; rw [h.p, a]; rfl, by simp [toPs, PyData.canLayAll0, h.c, b], ?_⟩
    simp only [List.map_cons, toPs, PyData.depthAll]; omega
theorem EqE.alls (h : EqE n e) : ∀ xs ys : List α, PyData.eqvAll (toPs (xs.map e)) (toPs (ys.map e)) = decide (xs = ys)
  | [], [] => by simp [toPs, PyData.eqvAll]
  | [], _ :: _ => by simp [toPs, PyData.eqvAll]
  | _ :: _, [] => by simp [toPs, PyData.eqvAll]
  | x :: xs, y :: ys => by
    rw [List.map_cons, List.map_cons, eqs_cons, h.q, EqE.alls h xs ys]
    by_cases a : x = y <;> by_cases b : xs = ys <;> simp [a, b]
theorem EqE.lst (h : EqE n e) : EqE (n + 1) (fun xs : List α => D.lst (xs.map e)) :=
  ⟨fun xs => (h.all xs).1, fun xs => by simp [toP, PyData.canLay0, (h.all xs).2.1], fun xs => by simp only [toP, PyData.depth]; have := (h.all xs).2.2; omega, fun xs ys => by rw [eqD_lst]; exact h.alls xs ys⟩
theorem EqE.tupL (h : EqE n e) : EqE (n + 1) (fun xs : List α => D.tup (xs.map e)) :=
  ⟨fun xs => (h.all xs).1, fun xs => by simp [toP, PyData.canLay0, (h.all xs).2.1], fun xs => by simp only [toP, PyData.depth]; have := (h.all xs).2.2; omega, fun xs ys => by rw [eqD_tup]; exact h.alls xs ys⟩
theorem EqE.tup2 (h : EqE n e) (i : EqE m f) : EqE (max n m + 1) (fun p : α × β => D.tup [e p.1, f p.2]) := by
  refine ⟨fun x => ?_, fun x => ?_, fun x => ?_, fun x y => ?_⟩
  · show (plainD _ && (plainD _ && true)) = true; rw [h.p, i.p]; rfl
  · simp [toP, toPs, PyData.canLay0, PyData.canLayAll0, h.c, i.c]
  · have := h.d x.1; have := i.d x.2
    simp only [toP, toPs, PyData.depth, PyData.depthAll]; omega
  · rw [eqD_tup, eqs_cons, eqs_cons, eqs_nil, h.q, i.q]
    obtain ⟨a, b⟩ := x; obtain ⟨c, d⟩ := y
    by_cases q : a = c <;> by_cases r : b = d <;> simp [q, r]
theorem EqE.tup3 (h : EqE n e) (i : EqE m f) (j : EqE k g) : EqE (max n (max m k) + 1) (fun p : α × β × γ => D.tup [e p.1, f p.2.1, g p.2.2]) := by
  refine ⟨fun x => ?_, fun x => ?_, fun x => ?_, fun x y => ?_⟩
  · show (plainD _ && (plainD _ && (plainD _ && true))) = true; rw [h.p, i.p, j.p]; rfl
  · simp [toP, toPs, PyData.canLay0, PyData.canLayAll0, h.c, i.c, j.c]
  · have := h.d x.1; have := i.d x.2.1; have := j.d x.2.2
    simp only [toP, toPs, PyData.depth, PyData.depthAll]; omega
  · rw [eqD_tup, eqs_cons, eqs_cons, eqs_cons, eqs_nil, h.q, i.q, j.q]
    obtain ⟨a, b, u⟩ := x; obtain ⟨c, d, v⟩ := y
    by_cases q : a = c <;> by_cases r : b = d <;> by_cases w : u = v <;> simp [q, r, w]
end
/-- pairs and triples of ints -/
abbrev P2 (c : Int × Int) : D := .tup [.int c.1, .int c.2]
abbrev P3 (c : Int × Int × Int) : D := .tup [.int c.1, .int c.2.1, .int c.2.2]
theorem eqe_P2 : EqE 1 P2 := EqE.tup2 eqe_int eqe_int
theorem eqe_P3 : EqE 1 P3 := EqE.tup3 eqe_int eqe_int eqe_int

/-! ### comprehensions and loops over typed items -/
section
variable {vs vs1 : List Nat} {t t1 : Tg} {tt tt1 : M Bool} {te : M D} {ρ0 : Rho} {e : α → D}
theorem lc_map {g : α → D} : ∀ {xs : List α}, (∀ a ∈ xs, ∃ ρ1 ρ2, t (e a) ρ0 = some ρ1 ∧ te ρ1 = .ok (g a) ρ2 ∧ wipeR ρ2 vs = ρ0) → lcL vs t yesM te (xs.map e) ρ0 = .ok (xs.map g) ρ0
  | [], _ => rfl
  | a :: xs, h => by
    obtain ⟨ρ1, ρ2, h1, h2, h3⟩ := h a List.mem_cons_self
    have ih := lc_map (xs := xs) fun b hb => h b (List.mem_cons_of_mem _ hb)
    rw [List.map_cons, s_lc1, h1]
    simp [h2, h3, ih]
theorem lc_filter {g : α → D} {p : α → Bool} : ∀ {xs : List α}, (∀ a ∈ xs, ∃ ρ1 ρ2, t (e a) ρ0 = some ρ1 ∧ tt ρ1 = .ok (p a) ρ2 ∧ (p a = false → wipeR ρ2 vs = ρ0) ∧ (p a = true → ∃ ρ3, te ρ2 = .ok (g a) ρ3 ∧ wipeR ρ3 vs = ρ0)) → lcL vs t tt te (xs.map e) ρ0 = .ok ((xs.filter p).map g) ρ0
  | [], _ => rfl
  | a :: xs, h => by
    obtain ⟨ρ1, ρ2, h1, h2, h3, h4⟩ := h a List.mem_cons_self
    have ih := lc_filter (xs := xs) fun b hb => h b (List.mem_cons_of_mem _ hb)
    rw [List.map_cons, s_lc1, h1, List.filter_cons]
    cases hp : p a with
    | false => rw [hp] at h2; simp [h2, h3 hp, ih]
    | true =>
      obtain ⟨ρ3, h5, h6⟩ := h4 hp
      rw [hp] at h2
      simp [h2, h5, h6, ih]
theorem lc_mapP {g : α → D} {xs : List α} (h : ∀ a ∈ xs, ∃ ρ1, t (e a) ρ0 = some ρ1 ∧ te ρ1 = .ok (g a) ρ1 ∧ wipeR ρ1 vs = ρ0) : lcL vs t yesM te (xs.map e) ρ0 = .ok (xs.map g) ρ0 :=
  lc_map fun a ha => let ⟨ρ1, h1, h2, h3⟩ := h a ha; ⟨ρ1, ρ1, h1, h2, h3⟩
theorem lc_filterP {g : α → D} {p : α → Bool} {xs : List α} (h : ∀ a ∈ xs, ∃ ρ1, t (e a) ρ0 = some ρ1 ∧ tt ρ1 = .ok (p a) ρ1 ∧ (p a = true → te ρ1 = .ok (g a) ρ1) ∧ wipeR ρ1 vs = ρ0) : lcL vs t tt te (xs.map e) ρ0 = .ok ((xs.filter p).map g) ρ0 :=
  lc_filter fun a ha => let ⟨ρ1, h1, h2, h3, h4⟩ := h a ha; ⟨ρ1, ρ1, h1, h2, fun _ => h4, fun hp => ⟨ρ1, h3 hp, h4⟩⟩
/-- items made one by one, the state going on -/
theorem lc_ex {g : β → D} {Ok : β → Prop} (Inv : Nat → Rho → Prop) : ∀ {ds : List D} {k : Nat} {ρ : Rho}, Inv k ρ → (∀ i d ρ, d ∈ ds → k ≤ i → i < k + ds.length → Inv i ρ → ∃ ρ1 ρ2 y, t d ρ = some ρ1 ∧ te ρ1 = .ok (g y) ρ2 ∧ Ok y ∧ Inv (i + 1) (wipeR ρ2 vs)) →
    ∃ (ys : List β) (ρ' : Rho), lcL vs t yesM te ds ρ = .ok (ys.map g) ρ' ∧ ys.length = ds.length ∧ (∀ y ∈ ys, Ok y) ∧ Inv (k + ds.length) ρ'
  | [], k, ρ, h, _ => ⟨[], ρ, rfl, rfl, fun y hy => absurd hy List.not_mem_nil, h⟩
  | d :: ds, k, ρ, h, st => by
    obtain ⟨ρ1, ρ2, y, h1, h2, h3, h4⟩ := st k d ρ List.mem_cons_self (Nat.le_refl _) (by rw [List.length_cons]; omega) h
    obtain ⟨ys, ρ', e, l, o, i⟩ := lc_ex Inv (ds := ds) (k := k + 1) h4 fun j d' ρ hd a b => st j d' ρ (List.mem_cons_of_mem _ hd) (by omega) (by rw [List.length_cons]; omega)
    have e3 : k + 1 + ds.length = k + (d :: ds).length := by rw [List.length_cons]; omega
    refine ⟨y :: ys, ρ', ?_, by rw [List.length_cons, List.length_cons, l], fun z hz => ?_, e3 ▸ i⟩
    · rw [s_lc1, h1]
      simp [h2, e]
    · rcases List.mem_cons.mp hz with rfl | hz
      · exact h3
      · exact o z hz
@[simp] theorem s_lcB0 {ms : M (List D)} {ρ : Rho} : lcB vs vs1 t tt ms t1 tt1 te [] ρ = .ok [] ρ := rfl
theorem lcB_map {ms : M (List D)} {f : α → List β} {g : α → β → D} {e1 : β → D} : ∀ {xs : List α}, (∀ a ∈ xs, ∃ ρ1 ρ2 ρ4, t (e a) ρ0 = some ρ1 ∧ ms ρ1 = .ok ((f a).map e1) ρ2 ∧ lcL vs1 t1 yesM te ((f a).map e1) (wipeR ρ2 vs1) = .ok ((f a).map (g a)) ρ4 ∧ wipeR ρ4 vs = ρ0) →
    lcB vs vs1 t yesM ms t1 yesM te (xs.map e) ρ0 = .ok (xs.flatMap fun a => (f a).map (g a)) ρ0
  | [], _ => rfl
  | a :: xs, h => by
    obtain ⟨ρ1, ρ2, ρ4, h1, h2, h3, h4⟩ := h a List.mem_cons_self
    have ih := lcB_map (ms := ms) (f := f) (g := g) (e1 := e1) (xs := xs) fun b hb => h b (List.mem_cons_of_mem _ hb)
    rw [List.map_cons]
    unfold lcB
    rw [h1]
    simp [h2, h3, h4, ih]
/-- a loop that may return -/
theorem forM_first {b : M Fl} {p : α → Bool} {r : α → D} (S : Rho → Prop) : ∀ {xs : List α} {ρ : Rho}, S ρ → (∀ a ∈ xs, ∀ ρ, S ρ → ∃ ρ1 ρ2, t (e a) ρ = some ρ1 ∧ b ρ1 = .ok (if p a = true then .rt (r a) else .nx) ρ2 ∧ S ρ2) →
    ∃ ρ', S ρ' ∧ DL.forM t b (xs.map e) ρ = .ok (match xs.find? p with | some a => .rt (r a) | none => .nx) ρ'
  | [], ρ, h, _ => ⟨ρ, h, rfl⟩
  | a :: xs, ρ, h, st => by
    obtain ⟨ρ1, ρ2, h1, h2, h3⟩ := st a List.mem_cons_self ρ h
    rw [List.map_cons, s_forC, h1, List.find?_cons]
    cases hp : p a with
    | true =>
      rw [hp, if_pos rfl] at h2
      exact ⟨ρ2, h3, by simp [h2]⟩
    | false =>
      rw [hp, if_neg Bool.false_ne_true] at h2
      obtain ⟨ρ', h4, h5⟩ := forM_first S (xs := xs) h3 fun c hc => st c (List.mem_cons_of_mem _ hc)
      exact ⟨ρ', h4, by simp [h2, h5]⟩
/-- a loop through all items -/
theorem forM_all {b : M Fl} (Inv : Nat → Rho → Prop) {xs : List α} {ρ : Rho} (h : Inv 0 ρ) (st : ∀ (i : Nat) (a : α) ρ, xs[i]? = some a → Inv i ρ → ∃ ρ1 ρ2, t (e a) ρ = some ρ1 ∧ b ρ1 = .ok .nx ρ2 ∧ Inv (i + 1) ρ2) : ∃ ρ', DL.forM t b (xs.map e) ρ = .ok .nx ρ' ∧ Inv xs.length ρ' := by
  obtain ⟨ρ', e1, h1⟩ := forM_inv (t := t) (b := b) Inv (ds := xs.map e) (k := 0) h fun i d ρ hi _ _ hd => by
    rw [Nat.sub_zero, List.getElem?_map] at hd
    obtain ⟨a, ha, rfl⟩ := Option.map_eq_some_iff.mp hd
    exact st i a ρ ha hi
  refine ⟨ρ', e1, ?_⟩
  rw [List.length_map, Nat.zero_add] at h1
  exact h1
end
/-! ### letters -/
abbrev Ltr := _root_.Fin 26
def cd (l : Ltr) : Nat := 97 + l
def sg (l : Ltr) : D := .str ⟨#[cd l]⟩
def rwS (r : List (Ltr)) : Str := ⟨(r.map cd).toArray⟩
def rwD (r : List (Ltr)) : D := .str (rwS r)
theorem cd_inj {a b : Ltr} (h : cd a = cd b) : a = b := by unfold cd at h; exact Fin.ext (by omega)
theorem rwS_inj {a b : List (Ltr)} : rwS a = rwS b ↔ a = b := by
  constructor
  · intro h
    unfold rwS at h
    injection h with h
    have h := congrArg Array.toList h
    simp only at h
    have key : ∀ (a b : List (Ltr)), a.map cd = b.map cd → a = b := by
      intro a
      induction a with
      | nil => intro b h; cases b with
        | nil => rfl
        | cons _ _ => simp at h
      | cons x xs ih => intro b h; cases b with
        | nil => simp at h
        | cons y ys =>
          simp only [List.map_cons, List.cons.injEq] at h
          rw [cd_inj h.1, ih ys h.2]
    exact key a b h
  · rintro rfl; rfl
theorem eqD_str (x y : Str) : eqD (.str x) (.str y) = decide (x = y) := by
  show PyData.eqv (.str x) (.str y) = _
  rw [PyData.eqv]
  by_cases h : x = y <;> simp [h]
theorem eqe_rw : EqE 0 rwD := by
  refine ⟨fun _ => rfl, fun r => ?_, fun _ => by simp [rwD, toP, PyData.depth], fun a b => by unfold rwD; rw [eqD_str, decide_eq_decide, rwS_inj]⟩
  simp only [rwD, toP, PyData.canLay0, PyData.strOk, rwS]
  rw [Array.all_eq_true]
  intro i hi
  simp only [List.getElem_toArray, List.getElem_map, cd, decide_eq_true_eq]
  omega
theorem sg_rw (l : Ltr) : sg l = rwD [l] := rfl
theorem eqe_sg : EqE 0 sg := by
  refine ⟨fun _ => rfl, fun l => ?_, fun l => ?_, fun a b => ?_⟩
  · rw [sg_rw]; exact eqe_rw.c _
  · rw [sg_rw]; exact eqe_rw.d _
  · rw [sg_rw, sg_rw, eqe_rw.q, decide_eq_decide]; simp
theorem rw_len (r : List (Ltr)) : (rwS r).length = r.length := by
  show (Array.size _) = _
  simp [rwS]
theorem signs_rw (r : List (Ltr)) : signs (rwS r) = r.map sg := by
  unfold signs rwS sg
  simp
theorem ix_rw {r : List (Ltr)} {i : Int} {l : Ltr} (h0 : 0 ≤ i) (h : r[i.toNat]? = some l) (hl : r.length ≤ 1000000) : gIx (rwD r) (.int i) = some (sg l) := by
  show (if (rwS r).length ≤ sizeLine then _ else none) = _
  rw [rw_len, if_pos (sz hl)]
  have e : L2.atI (rwS r).cps.toList i = some (cd l) := atI_nat h0 (by simp [rwS, h])
  rw [e]; rfl
theorem strs_sg : ∀ r : List (Ltr), strsD (r.map sg) = some (r.map fun l => (⟨#[cd l]⟩ : Str))
  | [] => rfl
  | l :: r => by
    have e : strsD ((l :: r).map sg) = (strsD (r.map sg)).map ((⟨#[cd l]⟩ : Str) :: ·) := rfl
    rw [e, strs_sg r]; rfl
theorem joinL_one : ∀ cs : List Nat, TL.joinL [] (cs.map fun c => [c]) = cs
  | [] => rfl
  | [c] => rfl
  | c :: d :: cs => by
    have e : TL.joinL [] ((c :: d :: cs).map fun c => [c]) = [c] ++ ([] ++ TL.joinL [] ((d :: cs).map fun c => [c])) := rfl
    rw [e, joinL_one (d :: cs)]; rfl
theorem join_sg (r : List (Ltr)) (h : r.length ≤ 1000000) : gJoin (Str.ofString "") (.lst (r.map sg)) = some (rwD r) := by
  unfold gJoin
  rw [s_seqL]
  dsimp only
  rw [strs_sg]
  dsimp only
  have e1 : ((r.map fun l => (⟨#[cd l]⟩ : Str)).map (·.length)).sum ≤ r.length := by
    clear h
    induction r with
    | nil => simp
    | cons l r ih =>
      simp only [List.map_cons, List.sum_cons, List.length_cons] at ih ⊢
      have : (⟨#[cd l]⟩ : Str).length = 1 := rfl
      omega
  have e0 : (Str.ofString "").length = 0 := by rfl
  rw [if_pos (by rw [e0, Nat.mul_zero]; omega)]
  have ey : (r.map fun l => (⟨#[cd l]⟩ : Str)) = ((r.map cd).map fun c => [c]).map SX.S := by simp
  have ea : Str.ofString "" = SX.S [] := by rfl
  rw [ey, ea, SX.join_S, joinL_one]
  rfl
theorem EqE.gIn {α : Type} [DecidableEq α] {n : Nat} {e : α → D} (h : EqE n e) (hn : n ≤ 63) (a : α) (xs : List α) : gIn (e a) (.lst (xs.map e)) = some (.bl (decide (a ∈ xs))) := by
  have ok : okDs (xs.map e) = true := by
    obtain ⟨p, c, d⟩ := h.all xs
    unfold okDs SeqAt.shaped
    rw [p, show (PyData.list (toPs (xs.map e))).canLay0 = true by simp [PyData.canLay0, c], decide_eq_true (by simp only [PyData.depth]; omega)]; rfl
  show (if okD (e a) && okDs (xs.map e) then some (D.bl (hasD (e a) (xs.map e))) else none) = _
  rw [h.ok (by omega), ok]
  have hh : hasD (e a) (xs.map e) = decide (a ∈ xs) := by
    unfold hasD
    clear ok
    induction xs with
    | nil => rfl
    | cons x xs ih =>
      rw [List.map_cons, List.any_cons, ih, h.q]
      by_cases q : x = a
      · simp [q]
      · have q' : ¬ a = x := fun z => q z.symm
        simp [q, q']
  rw [hh]; rfl
theorem EqE.gInA {α : Type} [DecidableEq α] {n : Nat} {e : α → D} (h : EqE n e) (hn : n ≤ 63) (a : α) (xs : List α) : gInA (e a) (.lst (xs.map e)) = some (.bl (decide (a ∈ xs))) := s_alt1 (h.gIn hn a xs)
/-! ### what may be told -/
theorem inBs_all {xs : List D} (h : ∀ x ∈ xs, inB x = true) : inBs xs = true := by
  induction xs with
  | nil => rfl
  | cons x xs ih =>
    show (inB x && inBs xs) = true
    rw [h x List.mem_cons_self, ih fun y hy => h y (List.mem_cons_of_mem _ hy)]; rfl
theorem dpDs_all {d : Nat} {xs : List D} (h : ∀ x ∈ xs, dpD x ≤ d) : dpDs xs ≤ d := by
  induction xs with
  | nil => exact Nat.zero_le _
  | cons x xs ih =>
    show max (dpD x) (dpDs xs) ≤ d
    have := h x List.mem_cons_self
    have := ih fun y hy => h y (List.mem_cons_of_mem _ hy)
    omega
theorem wtDs_all {w : Nat} {xs : List D} (h : ∀ x ∈ xs, wtD x ≤ w) : wtDs xs ≤ xs.length * (w + 1) := by
  induction xs with
  | nil => exact Nat.zero_le _
  | cons x xs ih =>
    show wtD x + 1 + wtDs xs ≤ _
    have := h x List.mem_cons_self
    have := ih fun y hy => h y (List.mem_cons_of_mem _ hy)
    rw [List.length_cons, Nat.succ_mul]
    omega
/-- inside, no deeper than d, no heavier than w -/
def Tl (d w : Nat) (x : D) : Prop := inB x = true ∧ dpD x ≤ d ∧ wtD x ≤ w
theorem Tl.okT {d w : Nat} {x : D} (h : Tl d w x) (hd : d ≤ 64) (hw : w ≤ 200000) : okT x = true := by
  obtain ⟨a, b, c⟩ := h
  unfold DL.okT
  rw [a, decide_eq_true (by omega), decide_eq_true (by omega)]; rfl
theorem Tl.mono {d w d' w' : Nat} {x : D} (h : Tl d w x) (hd : d ≤ d') (hw : w ≤ w') : Tl d' w' x := ⟨h.1, by have := h.2.1; omega, by have := h.2.2; omega⟩
theorem tl_lst {d w : Nat} {xs : List D} (h : ∀ x ∈ xs, Tl d w x) : Tl (d + 1) (xs.length * (w + 1)) (.lst xs) :=
  ⟨inBs_all fun x hx => (h x hx).1, by show dpDs xs + 1 ≤ d + 1; have := dpDs_all fun x hx => (h x hx).2.1; omega, wtDs_all fun x hx => (h x hx).2.2⟩
theorem tl_tup {d w : Nat} {xs : List D} (h : ∀ x ∈ xs, Tl d w x) : Tl (d + 1) (xs.length * (w + 1)) (.tup xs) :=
  ⟨inBs_all fun x hx => (h x hx).1, by show dpDs xs + 1 ≤ d + 1; have := dpDs_all fun x hx => (h x hx).2.1; omega, wtDs_all fun x hx => (h x hx).2.2⟩
theorem tl_int {i : Int} (h : i.natAbs < 1000000000000000000000000000000000000000000000000000000000000) : Tl 0 201 (.int i) := ⟨decide_eq_true h, Nat.le_refl _, Nat.le_refl _⟩
theorem tl_bl {b : Bool} : Tl 0 0 (.bl b) := ⟨rfl, Nat.le_refl _, Nat.le_refl _⟩
theorem tl_non : Tl 0 0 .non := ⟨rfl, Nat.le_refl _, Nat.le_refl _⟩
theorem tl_P2 {c : Int × Int} (h1 : c.1.natAbs < 1000000000000000000000000000000000000000000000000000000000000) (h2 : c.2.natAbs < 1000000000000000000000000000000000000000000000000000000000000) : Tl 1 404 (P2 c) := by
  have := tl_tup (d := 0) (w := 201) (xs := [.int c.1, .int c.2]) (by
    intro x hx
    simp only [List.mem_cons, List.not_mem_nil, or_false] at hx
    rcases hx with rfl | rfl
    · exact tl_int h1
    · exact tl_int h2)
  exact this
theorem tl_P3 {c : Int × Int × Int} (h1 : c.1.natAbs < 1000000000000000000000000000000000000000000000000000000000000) (h2 : c.2.1.natAbs < 1000000000000000000000000000000000000000000000000000000000000) (h3 : c.2.2.natAbs < 1000000000000000000000000000000000000000000000000000000000000) : Tl 1 606 (P3 c) := by
  have := tl_tup (d := 0) (w := 201) (xs := [.int c.1, .int c.2.1, .int c.2.2]) (by
    intro x hx
    simp only [List.mem_cons, List.not_mem_nil, or_false] at hx
    rcases hx with rfl | rfl | rfl
    · exact tl_int h1
    · exact tl_int h2
    · exact tl_int h3)
  exact this
theorem sortSet_ok {ns : List Int} (h : ns.length ≤ 4000) (h2 : (setI ns).length < 64) : gSortSet (.lst (ns.map D.int)) = some (.lst ((setI ns).map .int)) := by
  have e : ∀ ns : List Int, intsD (ns.map D.int) = some ns := fun ns => by
    induction ns with
    | nil => rfl
    | cons x xs ih =>
      have e : intsD ((x :: xs).map D.int) = (intsD (xs.map D.int)).map (x :: ·) := rfl
      rw [e, ih]; rfl
  show (intsD (ns.map D.int)).bind _ = _
  rw [e]
  show (if _ then _ else _) = _
  rw [if_pos ⟨h, h2⟩]
end DL
/-! DL: an own exception whose __init__ says super().__init__(..), then self.f = f. -/
namespace DL
open PySem PySem.Spec PyProof.Rows L2
/-- all that is asked of the class at C, its __init__ at fI, the def's code at cda, the cell of __class__ at cc -/
structure SupC (P : Program) (K : Fg) (C fI cda cc : Addr) (qual : Str) : Prop where
  ex : OexC K C
  own : PySem.W.findIn K (.ref C) "__init__" = some (some (.ref fI))
  tI : PySem.W.typeIn K (.ref fI) = some (.type "function")
  cd : PySem.W.codeIn K (.ref cda) qual = true
  code : ∃ ccl cdd vs ccs file tf, K.lookup cda = some ⟨ccl, cdd, .fields vs, ccs⟩ ∧ vs[2]? = some (.str file tf) ∧ ((P.main.file : Str) == file) = true
  top : (P.main.scope.names.lookup ("super" : Str)).isSome = false
  cell : ∃ cl cld csl, K.lookup cc = some ⟨cl, cld, .cell (some (.ref C)), csl⟩
  sub : PySem.W.mroIn K C (.ref C) = some true
  subV : PySem.W.subIn K (.ref C) (.type "ValueError") = some true
  st : PySem.W.nsIn K cStatics "thirdparty.any" = some none
  al : PySem.W.ks_superIn K C C "__init__" = some (some (.builtin "ValueError.__init__"))
section
variable {P : Program} {w : World} {K : Fg} {A : Around} {C fI cda cc : Addr} {qual : Str}
abbrev excD (C t : Addr) (d : Option Addr) : Obj := { cls := .ref C, dict := d, data := .fields #[.ref t, .none, .none, .none, .bool false, .none] }
/-- the bound built-in __init__, called -/
theorem call_super {s : Shared} {a u t0 : Addr} {us : List Value} {Q : Value → Shared → Prop} {E : Value → Shared → Prop} (T : SupC P K C fI cda cc qual) (KX : K.In s.heap) (hu : s.heap.get? u = some (PySem.W.kxs_mw "ValueError.__init__" a)) (ha : s.heap.get? a = some (excD C t0 none)) (hl : us.length ≤ sizeLine)
    (h : ∀ h' t1, (∀ b o, b ≠ a → s.heap.get? b = some o → h'.get? b = some o) → h'.get? a = some (excD C t1 none) → Q .none { s with heap := h' }) :
    wpAny (model P w) A (call (.ref u) us) Q E s := by
  obtain ⟨nm, q, N, bs, bm, sn, sub, ab, col, dd, k0, k1, k2, k3, k5, hC, _⟩ := T.ex.cls
  obtain ⟨hh, g, d, tk, os⟩ := s
  refine wpAny_call (codeAny_of_tree ?_)
  show wpAny _ A.in1 (callAny (.ref u) (⟨us, []⟩ : Args)) _ _ _
  unfold callAny
  refine wpAny_bind (wpAny_load hu (PySem.W.KFB.if_so (by rfl) (wpAny_bind (PySem.W.check_bound_init F.excBase_ValueError.toExcCallFacts (KX _ _ hC) ha rfl (wpAny_bind (wpAny_pure (wpAny_pure ⟨plainId_quiet F.excBase_ValueError.init.plain _, codeAny_builtin F.excBase_ValueError.initEntry ?_⟩)))))))
  exact PySem.W.exc_init_tree (cls := .ref C) (t0 := t0) (dv := none) (c2 := .none) (c3 := .none) (b4 := .bool false) ha hl fun h' k1 k2 _ => h h' _ k1 k2
/-- what the scope of such an __init__ must say: ps its own parameters -/
structure SupS (scope : Scope) (me : Str) (ps : List Str) : Prop where
  kind : scope.kind = .function
  co : scope.isCoroutine = false
  gen : scope.isGenerator = false
  cell : ∀ x ∈ scope.names, x.2 ≠ .cell
  sup : scope.names.lookup ("super" : Str) = some .globalImplicit
  cls : scope.names.lookup ("__class__" : Str) = some .free
  slf : scope.names.lookup me = some .local
  par : ∀ x ∈ ps, scope.names.lookup x = some .local
/-- the names of the module and the built-in ones -/
structure Nms (K : Fg) (h : Heap) : Prop where
  kin : K.In h
  glob : ∃ mg, h.Ns mainGlobals mg ∧ mg "super" = none
  blt : ∃ mb : Str → Option Value, h.Ns builtinsNs mb ∧ mb "super" = bootBuiltins "super"
variable {scope : Scope} {self : Str} {ps : List Str} {L : Addr}
abbrev supEnv (qual : Str) (scope : Scope) (L fI cda cc : Addr) : Env := PySem.W.ksEnv qual scope L fI (.ref cda) cc
theorem local_ok {s : Shared} {m : Str → Option Value} {x : Str} {v : Value} {A : Around} {E : Value → Shared → Prop} {Q : Value → Shared → Prop} {pos : Pos} (hk : scope.kind = .function) (hx : scope.names.lookup x = some .local) (hns : s.heap.Ns L m) (hv : m x = some v) (hd : (x == ("__debug__" : Str)) = false) (h : Q v s) :
    wpAny (model P w) A (eval (.Name x pos) (supEnv qual scope L fI cda cc)) Q E s := wpAny_Name (wpAny_loadName_local hk hx hns hv h) hd
/-- super().__init__(x, ..) -/
theorem exec_super {s : Shared} {m : Str → Option Value} {a t0 : Addr} {e : Expr} {es : List Expr} {us : List Value} {body : List Stmt} {p0 p1 p2 p4 p5 : Pos} {Q : Flow → Shared → Prop} {E : Value → Shared → Prop} {fd : FuncData} {oc : Value} {od : Option Addr} {osl : Array (Option Value)} {ar : Arg}
    (T : SupC P K C fI cda cc qual) (S : SupS scope self ps) (N : Nms K s.heap) (lk : K.lookup fI = some ⟨oc, od, .func fd, osl⟩) (hp : (fd.params.posonlyargs ++ fd.params.args).head? = some ar) (har : ar.arg = self)
    (hns : s.heap.Ns L m) (hv : m self = some (.ref a)) (ha : s.heap.get? a = some (excD C t0 none)) (hl : us.length ≤ sizeLine)
    (hargs : ∀ (A : Around) (E : Value → Shared → Prop) (Q : List Value → Shared → Prop) (s' : Shared), s'.heap.Ns L m → Q us s' → wpAny (model P w) A (spliced (backTo p4 (starEach (e :: es) (supEnv qual scope L fI cda cc)))) Q E s')
    (h : ∀ h' tk t1, (∀ b o, b ≠ a → s.heap.get? b = some o → h'.get? b = some o) → h'.get? a = some (excD C t1 none) → Q .next { s with heap := h', toks := tk })
    (he : starEach (e :: es) (supEnv qual scope L fI cda cc) = (false, eval e (supEnv qual scope L fI cda cc)) :: starEach es (supEnv qual scope L fI cda cc) := by rfl) (hpl : (backTo p4 (starEach es (supEnv qual scope L fI cda cc))).any (·.1) = false := by rfl)
    (hc : eval (.Call (.Attribute (.Call (.Name "super" p0) [] [] p1) "__init__" p2) (e :: es) [] p4) (supEnv qual scope L fI cda cc) = (do
      let ov ← attributeBase (.Call (.Name "super" p0) [] [] p1) "__init__" (supEnv qual scope L fI cda cc) (eval (.Call (.Name "super" p0) [] [] p1) (supEnv qual scope L fI cda cc))
      standAt p2.atName
      let (f, first) ← holding [ov] (getMethod ov "__init__" (pure false))
      callWith p4 f first (backTo p4 (starEach (e :: es) (supEnv qual scope L fI cda cc))) []) := by rfl)
    (hi : interactive (supEnv qual scope L fI cda cc) = false := by rfl) (hs : swapsWith (.Call (.Attribute (.Call (.Name "super" p0) [] [] p1) "__init__" p2) (e :: es) [] p4) none p5.line (supEnv qual scope L fI cda cc) = pure false := by rfl) :
    _root_.PySem.wpAt (model P w) A (.func body (supEnv qual scope L fI cda cc)) (exec (.Expr (.Call (.Attribute (.Call (.Name "super" p0) [] [] p1) "__init__" p2) (e :: es) [] p4) p5) (supEnv qual scope L fI cda cc)) Q E s := by
  obtain ⟨nm, q, NN, bs, bm, sn, sub, ab, col, dd, k0, k1, k2, k3, k5, hC, hbm⟩ := T.ex.cls
  have KX := N.kin
  obtain ⟨mg, G, gS⟩ := N.glob
  obtain ⟨mb, B, bS⟩ := N.blt
  obtain ⟨ccl, cdd, vs, ccs, file, tf, hcode, hvs, hfile⟩ := T.code
  obtain ⟨cl, cld, csl, hcell⟩ := T.cell
  have hal := T.al
  unfold PySem.W.ks_superIn at hal
  have hcl : PySem.W.clsIn K C = some { name := nm, bases := bs, mro := .ref C :: bm, ns := NN, qualname := q, hasDict := true, slotNames := sn, subclasses := sub, abstract := ab, collection := col, hasDel := false } := by unfold PySem.W.clsIn; rw [hC] <;> rfl
  rw [hcl] at hal
  have I0 : PySem.W.InstAt s.heap a (excD C t0 none) C none := ⟨ha, rfl, rfl, trivial⟩
  subst har
  refine PySem.ks_wpAt_Expr_any (PySem.ks_wpAt_MethodCall (pl := pure false) ?_ hc) hi hs
  refine PySem.ks_wpAt_super_base (file := file) (tf := tf) (ar := ar) (fd := fd) S.sup S.cls (by rfl) rfl (KX _ _ lk) rfl hp rfl (KX _ _ hcode) rfl hvs hfile T.top ?_
  refine PySem.W.ks_loadName_global S.kind S.sup (Calls.loadGlobal_builtin (mg := mg) (mb := mb) G gS B (bS.trans (by rfl)) ⟨rfl, ?_⟩)
  refine wpAny_loadName_free S.kind S.cls rfl ⟨_, KX _ _ hcell, rfl⟩ (wpAny_loadName_local S.kind S.slf hns hv (PySem.ks_wpAny_isType_cls (KX _ _ hC) rfl ⟨rfl, ?_⟩))
  obtain ⟨hh, g, d, tk, os⟩ := s
  refine PySem.ks_wpAny_call_super (KX _ _ hC) rfl ha rfl (fun c z => nomatch z) (PySem.W.looks_mroIn KX T.sub) fun h1 hso k1' => ?_
  have KX1 : K.In h1 := KX.keeps k1'
  have ha1 := k1' _ _ ha
  have I1 : PySem.W.InstAt h1 a (excD C t0 none) C none := ⟨ha1, rfl, rfl, trivial⟩
  refine PySem.W.kxs_getMethod PySem.W.kxs_ValueError hso (PySem.W.looks_opaque KX1 T.st) (l₀ := .ref C :: bm) (fun A Q E s k q => wpAny_bind ((PySem.W.looks_clsIn KX1 hcl) A _ E s k (wpAny_pure q))) rfl KX1 hal (I1.type.andThen (PySem.W.looks_subIn KX1 T.subV)) (PySem.W.ks_ne KX1 I1 hcl) (by rfl) ?_
  have kp : ∀ b o, hh.get? b = some o → (h1.push (PySem.W.kxs_mw "ValueError.__init__" a)).get? b = some o := fun b o z => Heap.get?_push_of_some _ (k1' b o z)
  have hu : (h1.push (PySem.W.kxs_mw "ValueError.__init__" a)).get? h1.objs.size = some (PySem.W.kxs_mw "ValueError.__init__" a) := Heap.get?_push_size _ rfl
  show wpAny _ _ (callWith p4 (.ref h1.objs.size) [] (backTo p4 (starEach (e :: es) (supEnv qual scope L fI cda cc))) []) _ _ _
  have hns' : (h1.push (PySem.W.kxs_mw "ValueError.__init__" a)).Ns L m := hns.keeps kp
  have ev := hargs A E (fun ws s1 => s1.heap.get? h1.objs.size = some (PySem.W.kxs_mw "ValueError.__init__" a) ∧ wpAny (model P w) A (call (.ref h1.objs.size) ws) (fun _ => Q .next) E s1) ⟨h1.push (PySem.W.kxs_mw "ValueError.__init__" a), g, d, tk + 1, os⟩ hns'
    ⟨hu, call_super T (KX.keeps kp) hu (kp _ _ ha) hl fun h' t1 k2 e2 => h h' _ t1 (fun b o hb z => k2 b o hb (kp b o z)) e2⟩
  rw [he] at ev ⊢
  exact PySem.W.kxs_callWith (i := "ValueError.__init__") (x := a) (by show (false || (backTo p4 (starEach es (supEnv qual scope L fI cda cc))).any (·.1)) = false; rw [hpl]; rfl) (Calls.evalArgs_plain ev)
/-- self.f = v, the first field -/
theorem set_first {s : Shared} {a t0 : Addr} {f : Str} {v : Value} {Q : Unit → Shared → Prop} {E : Value → Shared → Prop} (T : OexC K C) (KX : K.In s.heap) (ha : s.heap.get? a = some (excD C t0 none)) (hno : PySem.W.findIn K (.ref C) f = some none)
    (h : ∀ h' tk dx, (∀ b o, b ≠ a → s.heap.get? b = some o → h'.get? b = some o) → s.heap.objs.size ≤ dx → dx ≠ a → h'.get? a = some (excD C t0 (some dx)) → h'.Ns1 dx (fun y => if y = f then some v else none) → Q () { s with heap := h', toks := tk }) :
    wpAny (model P w) A (setAttr (.ref a) f v) Q E s := by
  obtain ⟨nm, q, NN, bs, bm, sn, sub, ab, col, dd, k0, k1, k2, k3, k5, hC, hbm⟩ := T.cls
  have hcl : PySem.W.clsIn K C = some { name := nm, bases := bs, mro := .ref C :: bm, ns := NN, qualname := q, hasDict := true, slotNames := sn, subclasses := sub, abstract := ab, collection := col, hasDel := false } := by unfold PySem.W.clsIn; rw [hC] <;> rfl
  obtain ⟨hp, g, d, t, os⟩ := s
  exact PySem.W.set_plain KX (ox := excD C t0 none) (od := none) ⟨ha, rfl, rfl, trivial⟩ T.sa (PySem.HandSPX.exc_osa KX ha hcl (show PySem.HandSPX.refsVE (.ref C :: bm) = true from hbm) rfl hno fun h' tk dx k l ne hx hn => h h' tk dx k l ne hx hn)
/-- self.f = v, a further one -/
theorem set_more {s : Shared} {a t0 dx : Addr} {f : Str} {v : Value} {mA : Str → Option Value} {nl : List Str} {Q : Unit → Shared → Prop} {E : Value → Shared → Prop} (T : OexC K C) (KX : K.In s.heap) (ha : s.heap.get? a = some (excD C t0 (some dx))) (hn : s.heap.Ns1 dx mA) (hw : Within mA nl) (hz : nl.length ≤ 1000) (hno : PySem.W.findIn K (.ref C) f = some none)
    (h : ∀ h' tk, (∀ b o, b ≠ dx → s.heap.get? b = some o → h'.get? b = some o) → h'.Ns1 dx (fun y => if y = f then some v else mA y) → Q () { s with heap := h', toks := tk }) :
    wpAny (model P w) A (setAttr (.ref a) f v) Q E s := by
  obtain ⟨nm, q, NN, bs, bm, sn, sub, ab, col, dd, k0, k1, k2, k3, k5, hC, hbm⟩ := T.cls
  have hcl : PySem.W.clsIn K C = some { name := nm, bases := bs, mro := .ref C :: bm, ns := NN, qualname := q, hasDict := true, slotNames := sn, subclasses := sub, abstract := ab, collection := col, hasDel := false } := by unfold PySem.W.clsIn; rw [hC] <;> rfl
  obtain ⟨hp, g, d, t, os⟩ := s
  obtain ⟨oD, _, _, hoD, _, _⟩ := hn.count hw
  exact PySem.W.set_plain KX (ox := excD C t0 (some dx)) (od := some oD) ⟨ha, rfl, rfl, hoD⟩ T.sa (PySem.OEX.osa_old KX ha hn hw hz hcl (show PySem.HandSPX.refsVE (.ref C :: bm) = true from hbm) rfl hno fun h' tk k hn' => h h' tk k hn')
variable {name : Str} {params : Arguments} {body : List Stmt} {dV kV doc pm ct oc : Value} {an od : Option Addr} {osl : Array (Option Value)}
theorem Nms.keeps {h h' : Heap} (N : Nms K h) (k : ∀ b o, h.get? b = some o → h'.get? b = some o) : Nms K h' :=
  ⟨N.kin.keeps k, N.glob.elim fun m z => ⟨m, z.1.keeps k, z.2⟩, N.blt.elim fun m z => ⟨m, z.1.keeps k, z.2⟩⟩
/-- what is told of super().__init__(x, ..) by its letters -/
structure SupE (qual : Str) (scope : Scope) (fI cda cc : Addr) (e : Expr) (es : List Expr) (p0 p1 p2 p4 p5 : Pos) : Prop where
  he : ∀ L, starEach (e :: es) (supEnv qual scope L fI cda cc) = (false, eval e (supEnv qual scope L fI cda cc)) :: starEach es (supEnv qual scope L fI cda cc)
  hpl : ∀ L, (backTo p4 (starEach es (supEnv qual scope L fI cda cc))).any (·.1) = false
  hc : ∀ L, eval (.Call (.Attribute (.Call (.Name "super" p0) [] [] p1) "__init__" p2) (e :: es) [] p4) (supEnv qual scope L fI cda cc) = (do
      let ov ← attributeBase (.Call (.Name "super" p0) [] [] p1) "__init__" (supEnv qual scope L fI cda cc) (eval (.Call (.Name "super" p0) [] [] p1) (supEnv qual scope L fI cda cc))
      standAt p2.atName
      let (f, first) ← holding [ov] (getMethod ov "__init__" (pure false))
      callWith p4 f first (backTo p4 (starEach (e :: es) (supEnv qual scope L fI cda cc))) [])
  hi : ∀ L, interactive (supEnv qual scope L fI cda cc) = false
  hs : ∀ L, swapsWith (.Call (.Attribute (.Call (.Name "super" p0) [] [] p1) "__init__" p2) (e :: es) [] p4) none p5.line (supEnv qual scope L fI cda cc) = pure false
/-- a name is loaded -/
theorem look2 {x y : Str} {u v : Value} (h : x ≠ y) : ([(x, u), (y, v)].reverse.lookup x) = some u := by
  show ([(y, v), (x, u)].lookup x) = _
  have e : (x == y) = false := by simpa using h
  simp [List.lookup, e]
theorem look2' {x y : Str} {u v : Value} : ([(x, u), (y, v)].reverse.lookup y) = some v := by
  show ([(y, v), (x, u)].lookup y) = _
  simp [List.lookup]
/-- def __init__(self, x): super().__init__(x); self.x = x -/
theorem init_one {s : Shared} {a t0 : Addr} {u : Value} {R : Result → Shared → Prop} {p0 p1 p2 p3 p4 p5 p6 p7 p8 p9 : Pos} {x : Str} {ar : Arg}
    (T : SupC P K C fI cda cc qual) (S : SupS scope self [x]) (N : Nms K s.heap) (hlim : s.heap.NoLimit) (hroom : A.depth < recursionLimit) (hne : self ≠ x)
    (hbody : body = [.Expr (.Call (.Attribute (.Call (.Name "super" p0) [] [] p1) "__init__" p2) [.Name x p3] [] p4) p5, .Assign [.Attribute (.Name self p6) x p7] (.Name x p8) p9])
    (lk : K.lookup fI = some ⟨oc, od, .func (PySem.W.ksFn name qual params body scope dV kV doc pm an (.ref cda) ct cc), osl⟩) (hp : (params.posonlyargs ++ params.args).head? = some ar) (har : ar.arg = self)
    (hbind : BindsTo s (PySem.W.ksFn name qual params body scope dV kV doc pm an (.ref cda) ct cc) ⟨[.ref a, u], []⟩ [(self, .ref a), (x, u)]) (Se : SupE qual scope fI cda cc (.Name x p3) [] p0 p1 p2 p4 p5)
    (hno : PySem.W.findIn K (.ref C) x = some none) (ha : s.heap.get? a = some (excD C t0 none)) (hKa : K.lookup a = none) (hd1 : (self == ("__debug__" : Str)) = false) (hd2 : (x == ("__debug__" : Str)) = false)
    (hsw : ∀ L, swapsWith (.Name x p8) (some (.Attribute (.Name self p6) x p7)) p9.line (supEnv qual scope L fI cda cc) = pure false)
    (h : ∀ h' tk dx t1, (∀ b o, b ≠ a → s.heap.get? b = some o → h'.get? b = some o) → s.heap.get? dx = none → dx ≠ a → h'.get? a = some (excD C t1 (some dx)) → h'.Ns1 dx (fun y => if y = x then some u else none) → R (.ok (.ret .none)) { s with heap := h', toks := tk }) :
    codeAny (model P w) A (.call (.ref fI) ⟨[.ref a, u], []⟩) R s := by
  have KX := N.kin
  refine ks_codeAny_call_defAt (fd := PySem.W.ksFn name qual params body scope dV kV doc pm an (.ref cda) ct cc) (binds := [(self, .ref a), (x, u)]) hroom (KX _ _ lk) rfl hlim (PySem.W.codeRec_of KX T.cd) rfl hbind S.cell (fun y hy => ?_) (fun h₁ hns hk₁ => ?_) S.co S.gen S.kind
  · simp only [List.mem_cons, List.not_mem_nil, or_false] at hy
    rcases hy with rfl | rfl
    · exact S.slf
    · exact S.par _ List.mem_cons_self
  · have v1 : ([(self, Value.ref a), (x, u)].reverse.lookup self) = some (.ref a) := look2 hne
    have v2 : ([(self, Value.ref a), (x, u)].reverse.lookup x) = some u := look2'
    have ld : ∀ {A : Around} {E : Value → Shared → Prop} {Q : Value → Shared → Prop} {pos : Pos} {s' : Shared}, s'.heap.Ns s.heap.objs.size (fun y => [(self, Value.ref a), (x, u)].reverse.lookup y) → Q u s' → wpAny (model P w) A (eval (.Name x pos) (supEnv qual scope s.heap.objs.size fI cda cc)) Q E s' :=
      fun hn q => local_ok S.kind (S.par _ List.mem_cons_self) hn v2 hd2 q
    subst hbody
    refine ks_wpAt_execs_cons (exec_super T S (N.keeps hk₁) lk hp har hns v1 (hk₁ _ _ ha) (us := [u]) (by show 1 ≤ sizeLine; decide) (fun A E Q s' hn q => Calls.spliced_cons (ld hn (Calls.spliced_nil q))) (fun h2 tk t1 k2 e2 => ?_) (Se.he _) (Se.hpl _) (Se.hc _) (Se.hi _) (Se.hs _))
    have n2 : h2.Ns s.heap.objs.size (fun y => [(self, Value.ref a), (x, u)].reverse.lookup y) := by
      obtain ⟨o, es, ep, ho, r⟩ := hns
      exact ⟨o, es, ep, k2 _ _ (Nat.ne_of_gt (Heap.lt_size ha)) ho, r⟩
    have kk : ∀ b o, b ≠ a → s.heap.get? b = some o → h2.get? b = some o := fun b o hb z => k2 b o hb (hk₁ b o z)
    have K2 : K.In h2 := fun b o z => kk b o (fun y => by rw [y, hKa] at z; cases z) (KX b o z)
    refine _root_.PySem.wpAt_of_wpAny (wpAny_execs_cons (plainObj_wpAny_Assign_Attribute (ld n2 (local_ok S.kind S.slf n2 v1 hd1 (set_first T.ex K2 e2 hno fun h3 tk3 dx k3 l3 ne3 hx hn => ?_))) (hsw _)))
    refine wpAny_execs_nil (h h3 tk3 dx t1 (fun b o hb z => k3 b o hb (kk b o hb z)) ?_ ne3 hx hn)
    cases q : s.heap.get? dx with
    | none => rfl
    | some o => exact absurd (Heap.lt_size (kk dx o ne3 q)) (Nat.not_lt.mpr l3)
theorem look3 {x y z : Str} {u v t : Value} (h : x ≠ y) (h2 : x ≠ z) : ([(x, u), (y, v), (z, t)].reverse.lookup x) = some u := by
  show ([(z, t), (y, v), (x, u)].lookup x) = _
  have e : (x == y) = false := by simpa using h
  have e2 : (x == z) = false := by simpa using h2
  simp [List.lookup, e, e2]
theorem look3' {x y z : Str} {u v t : Value} (h : y ≠ z) : ([(x, u), (y, v), (z, t)].reverse.lookup y) = some v := by
  show ([(z, t), (y, v), (x, u)].lookup y) = _
  have e : (y == z) = false := by simpa using h
  simp [List.lookup, e]
theorem look3'' {x y z : Str} {u v t : Value} : ([(x, u), (y, v), (z, t)].reverse.lookup z) = some t := by
  show ([(z, t), (y, v), (x, u)].lookup z) = _
  simp [List.lookup]
/-- .. of two parameters -/
theorem init_two {s : Shared} {a t0 : Addr} {u v : Value} {R : Result → Shared → Prop} {p0 p1 p2 p3 q3 p4 p5 p6 p7 p8 p9 q6 q7 q8 q9 : Pos} {x y : Str} {ar : Arg}
    (T : SupC P K C fI cda cc qual) (S : SupS scope self [x, y]) (N : Nms K s.heap) (hlim : s.heap.NoLimit) (hroom : A.depth < recursionLimit) (hne : self ≠ x) (hne2 : self ≠ y) (hxy : x ≠ y)
    (hbody : body = [.Expr (.Call (.Attribute (.Call (.Name "super" p0) [] [] p1) "__init__" p2) [.Name x p3, .Name y q3] [] p4) p5, .Assign [.Attribute (.Name self p6) x p7] (.Name x p8) p9, .Assign [.Attribute (.Name self q6) y q7] (.Name y q8) q9])
    (lk : K.lookup fI = some ⟨oc, od, .func (PySem.W.ksFn name qual params body scope dV kV doc pm an (.ref cda) ct cc), osl⟩) (hp : (params.posonlyargs ++ params.args).head? = some ar) (har : ar.arg = self)
    (hbind : BindsTo s (PySem.W.ksFn name qual params body scope dV kV doc pm an (.ref cda) ct cc) ⟨[.ref a, u, v], []⟩ [(self, .ref a), (x, u), (y, v)]) (Se : SupE qual scope fI cda cc (.Name x p3) [.Name y q3] p0 p1 p2 p4 p5)
    (he2 : ∀ L, starEach [.Name y q3] (supEnv qual scope L fI cda cc) = (false, eval (.Name y q3) (supEnv qual scope L fI cda cc)) :: starEach [] (supEnv qual scope L fI cda cc))
    (hno : PySem.W.findIn K (.ref C) x = some none) (hno2 : PySem.W.findIn K (.ref C) y = some none) (ha : s.heap.get? a = some (excD C t0 none)) (hKa : K.lookup a = none) (hd1 : (self == ("__debug__" : Str)) = false) (hd2 : (x == ("__debug__" : Str)) = false) (hd3 : (y == ("__debug__" : Str)) = false)
    (hsw : ∀ L, swapsWith (.Name x p8) (some (.Attribute (.Name self p6) x p7)) p9.line (supEnv qual scope L fI cda cc) = pure false) (hsw2 : ∀ L, swapsWith (.Name y q8) (some (.Attribute (.Name self q6) y q7)) q9.line (supEnv qual scope L fI cda cc) = pure false)
    (h : ∀ h' tk dx t1, (∀ b o, b ≠ a → s.heap.get? b = some o → h'.get? b = some o) → s.heap.get? dx = none → dx ≠ a → h'.get? a = some (excD C t1 (some dx)) → h'.Ns1 dx (fun z => if z = y then some v else if z = x then some u else none) → R (.ok (.ret .none)) { s with heap := h', toks := tk }) :
    codeAny (model P w) A (.call (.ref fI) ⟨[.ref a, u, v], []⟩) R s := by
  have KX := N.kin
  refine ks_codeAny_call_defAt (fd := PySem.W.ksFn name qual params body scope dV kV doc pm an (.ref cda) ct cc) (binds := [(self, .ref a), (x, u), (y, v)]) hroom (KX _ _ lk) rfl hlim (PySem.W.codeRec_of KX T.cd) rfl hbind S.cell (fun z hy => ?_) (fun h₁ hns hk₁ => ?_) S.co S.gen S.kind
  · simp only [List.mem_cons, List.not_mem_nil, or_false] at hy
    rcases hy with rfl | rfl | rfl
    · exact S.slf
    · exact S.par _ List.mem_cons_self
    · exact S.par _ (List.mem_cons_of_mem _ List.mem_cons_self)
  · have v1 : ([(self, Value.ref a), (x, u), (y, v)].reverse.lookup self) = some (.ref a) := look3 hne hne2
    have v2 : ([(self, Value.ref a), (x, u), (y, v)].reverse.lookup x) = some u := look3' hxy
    have v3 : ([(self, Value.ref a), (x, u), (y, v)].reverse.lookup y) = some v := look3''
    have ld : ∀ {A : Around} {E : Value → Shared → Prop} {Q : Value → Shared → Prop} {pos : Pos} {s' : Shared}, s'.heap.Ns s.heap.objs.size (fun z => [(self, Value.ref a), (x, u), (y, v)].reverse.lookup z) → Q u s' → wpAny (model P w) A (eval (.Name x pos) (supEnv qual scope s.heap.objs.size fI cda cc)) Q E s' :=
      fun hn q => local_ok S.kind (S.par _ List.mem_cons_self) hn v2 hd2 q
    have ld2 : ∀ {A : Around} {E : Value → Shared → Prop} {Q : Value → Shared → Prop} {pos : Pos} {s' : Shared}, s'.heap.Ns s.heap.objs.size (fun z => [(self, Value.ref a), (x, u), (y, v)].reverse.lookup z) → Q v s' → wpAny (model P w) A (eval (.Name y pos) (supEnv qual scope s.heap.objs.size fI cda cc)) Q E s' :=
      fun hn q => local_ok S.kind (S.par _ (List.mem_cons_of_mem _ List.mem_cons_self)) hn v3 hd3 q
    subst hbody
    refine ks_wpAt_execs_cons (exec_super T S (N.keeps hk₁) lk hp har hns v1 (hk₁ _ _ ha) (us := [u, v]) (by show 2 ≤ sizeLine; decide) (fun A E Q s' hn q => ?_) (fun h2 tk t1 k2 e2 => ?_) (Se.he _) (Se.hpl _) (Se.hc _) (Se.hi _) (Se.hs _))
    · rw [Se.he]
      refine Calls.spliced_cons (ld hn ?_)
      rw [he2]
      exact Calls.spliced_cons (ld2 hn (Calls.spliced_nil q))
    have n2 : h2.Ns s.heap.objs.size (fun z => [(self, Value.ref a), (x, u), (y, v)].reverse.lookup z) := by
      obtain ⟨o, es, ep, ho, r⟩ := hns
      exact ⟨o, es, ep, k2 _ _ (Nat.ne_of_gt (Heap.lt_size ha)) ho, r⟩
    have kk : ∀ b o, b ≠ a → s.heap.get? b = some o → h2.get? b = some o := fun b o hb z => k2 b o hb (hk₁ b o z)
    have K2 : K.In h2 := fun b o z => kk b o (fun y => by rw [y, hKa] at z; cases z) (KX b o z)
    have Lh : ∃ o, h2.get? s.heap.objs.size = some o := by
      obtain ⟨o, es, ep, ho, r⟩ := n2
      exact ⟨o, ho⟩
    refine _root_.PySem.wpAt_of_wpAny (wpAny_execs_cons (plainObj_wpAny_Assign_Attribute (ld n2 (local_ok S.kind S.slf n2 v1 hd1 (set_first T.ex K2 e2 hno fun h3 tk3 dx k3 l3 ne3 hx hn => ?_))) (hsw _)))
    have new2 : ∀ {b : Addr} {o : Obj}, h2.get? b = some o → b ≠ dx := fun {b o} z => Nat.ne_of_lt (Nat.lt_of_lt_of_le (Heap.lt_size z) l3)
    have n3 : h3.Ns s.heap.objs.size (fun z => [(self, Value.ref a), (x, u), (y, v)].reverse.lookup z) := by
      obtain ⟨o, es, ep, ho, r⟩ := n2
      exact ⟨o, es, ep, k3 _ _ (Nat.ne_of_gt (Heap.lt_size ha)) ho, r⟩
    have kk3 : ∀ b o, b ≠ a → s.heap.get? b = some o → h3.get? b = some o := fun b o hb z => k3 b o hb (kk b o hb z)
    have K3 : K.In h3 := fun b o z => kk3 b o (fun y => by rw [y, hKa] at z; cases z) (KX b o z)
    refine wpAny_execs_cons (plainObj_wpAny_Assign_Attribute (ld2 n3 (local_ok S.kind S.slf n3 v1 hd1 (set_more T.ex K3 hx hn (nl := [x]) (fun z hz => ?_) (by simp) hno2 fun h4 tk4 k4 hn4 => ?_))) (hsw2 _))
    · by_cases e : z = x
      · subst e; exact List.mem_cons_self
      · exact absurd (if_neg e) hz
    refine wpAny_execs_nil (h h4 tk4 dx t1 (fun b o hb z => k4 b o ?_ (kk3 b o hb z)) ?_ ne3 (k4 _ _ (Ne.symm ne3) hx) hn4)
    · exact new2 (kk b o hb z)
    · cases q : s.heap.get? dx with
      | none => rfl
      | some o => exact absurd rfl (new2 (kk dx o ne3 q))
end
/-! ### C(x, ..), to be raised -/
section
variable {X : Cx} {C fI cda cc : Addr} {qual : Str} {scope : Scope} {self : Str}
theorem nms_of {pins : List (Addr × Obj)} {σ : L2.St} {H : Hp} {s : Shared} (I : Inv X pins σ H s) (hs : X.mg "super" = none) : Nms X.K s.heap := by
  obtain ⟨mb, b1, b2⟩ := I.mod.blt
  exact ⟨I.kIn, ⟨X.mg, I.mod.glob.keeps I.bk, hs⟩, ⟨mb, b1.keeps I.bk, b2 _ (by decide)⟩⟩
/-- what is left behind the making: the exception let go, its dict an exception's dict -/
theorem mk_made {pins : List (Addr × Obj)} {σ : L2.St} {H1 : Hp} {hp h' : Heap} {g : Array GenState} {dr : Drawn} {tk tk' : Nat} {os : OsState} {a dx t1 : Addr} {fs : List (Str × V)} {mA : Str → Option Value} {Q : XK} (T : OexC X.K C) (I1 : Inv X pins σ H1 ⟨hp, g, dr, tk, os⟩)
    (ha : hp.objs.size ≤ a) (k : ∀ b o, b ≠ a → hp.get? b = some o → h'.get? b = some o) (nd : hp.get? dx = none) (ne : dx ≠ a) (hx : h'.get? a = some (excD C t1 (some dx))) (hn : h'.Ns1 dx mA) (r : ∀ f, RelO (fs.lookup f) (mA f))
    (q : Q (.ref C) (some dx) (upd H1 dx (.xd fs))) : MkP X pins σ Q (.ref a) ⟨h', g, dr, tk', os⟩ := by
  obtain ⟨G, g1, g2⟩ := restrict h' fun b => decide (b ≠ a)
  have gk : ∀ b, b ≠ a → G.get? b = h'.get? b := fun b hb => g1 b (decide_eq_true hb)
  have ge : G.get? a = none := g2 a (by simp)
  have old : ∀ {b : Addr} {o : Obj}, hp.get? b = some o → b ≠ a := fun {b o} z => Nat.ne_of_lt (Nat.lt_of_lt_of_le (Heap.lt_size z) ha)
  have n1 : H1 dx = none := I1.hok.gone nd
  have J : Inv X pins σ (upd H1 dx (.xd fs)) ⟨G, g, dr, tk', os⟩ := I1.laidN (t' := tk') (h' := G) (fun b o z => (gk b (old z)).trans (k b o (old z) z)) nd n1 ⟨mA, hn.at fun o z => (gk dx ne).trans z, r⟩
  have na : upd H1 dx (.xd fs) a = none := by
    rw [upd_ne (Ne.symm ne)]
    exact I1.hok.fresh ha
  refine ⟨a, _, _, ⟨G, g, dr, tk', os⟩, _, .ref C, some dx, rfl, J, fun b o z => ?_, ge, hx, ⟨rfl, rfl⟩, rfl, rfl, na, rfl, I1.bare, raises_own T.exC T.tyC, q⟩
  by_cases hb : b = a
  · rw [hb, ge] at z; cases z
  · exact (gk b hb).symm.trans z
end
end DL
/-! DL: raise C(x, ..). -/
namespace DL
open PySem PySem.Spec PyProof.Rows L2
/-- an own exception class, made with one value, kept as its field f -/
structure Ex1 (P : Program) (w : World) (K : Fg) (mg : Str → Option Value) (x f : Str) : Prop where
  mg : mg x = some (.ref (He.ga K x))
  ex : OexC K (He.ga K x)
  ini : ∃ fI, PySem.W.findIn K (.ref (He.ga K x)) "__init__" = some (some (.ref fI)) ∧ PySem.W.typeIn K (.ref fI) = some (.type "function") ∧
    ∀ (A : Around) (s : Shared) (a t0 : Addr) (u : Value) (R : Result → Shared → Prop), Nms K s.heap → s.heap.NoLimit → A.depth < recursionLimit → s.heap.get? a = some (excD (He.ga K x) t0 none) → K.lookup a = none →
      (∀ h' tk dx t1, (∀ b o, b ≠ a → s.heap.get? b = some o → h'.get? b = some o) → s.heap.get? dx = none → dx ≠ a → h'.get? a = some (excD (He.ga K x) t1 (some dx)) → h'.Ns1 dx (fun y => if y = f then some u else none) → R (.ok (.ret .none)) { s with heap := h', toks := tk }) →
      codeAny (model P w) A (.call (.ref fI) ⟨[.ref a, u], []⟩) R s
structure Ex2 (P : Program) (w : World) (K : Fg) (mg : Str → Option Value) (x f f2 : Str) : Prop where
  mg : mg x = some (.ref (He.ga K x))
  ex : OexC K (He.ga K x)
  ini : ∃ fI, PySem.W.findIn K (.ref (He.ga K x)) "__init__" = some (some (.ref fI)) ∧ PySem.W.typeIn K (.ref fI) = some (.type "function") ∧
    ∀ (A : Around) (s : Shared) (a t0 : Addr) (u v : Value) (R : Result → Shared → Prop), Nms K s.heap → s.heap.NoLimit → A.depth < recursionLimit → s.heap.get? a = some (excD (He.ga K x) t0 none) → K.lookup a = none →
      (∀ h' tk dx t1, (∀ b o, b ≠ a → s.heap.get? b = some o → h'.get? b = some o) → s.heap.get? dx = none → dx ≠ a → h'.get? a = some (excD (He.ga K x) t1 (some dx)) → h'.Ns1 dx (fun y => if y = f2 then some v else if y = f then some u else none) → R (.ok (.ret .none)) { s with heap := h', toks := tk }) →
      codeAny (model P w) A (.call (.ref fI) ⟨[.ref a, u, v], []⟩) R s
section
variable {X : Cx} {W : WX} {C : Sx} {ω ω' : List Sh} {x f f2 : Str} {e e2 : Expr} {te te2 : TE} {p pos pos2 : Pos} {k : Nat}
/-- the class called with values us: the raw call -/
theorem made_call {pins : List (Addr × Obj)} {σ : L2.St} {H1 : Hp} {s1 : Shared} {us : List Value} {Q : XK} {fs : Addr → List (Str × V)} {fI : Addr} (ex : OexC X.K (He.ga X.K x)) (hs : X.mg "super" = none) (hr : Room (k + 1) X.A) (I1 : Inv X pins σ H1 s1) (hl : us.length ≤ sizeLine)
    (own : PySem.W.findIn X.K (.ref (He.ga X.K x)) "__init__" = some (some (.ref fI))) (tI : PySem.W.typeIn X.K (.ref fI) = some (.type "function"))
    (run : ∀ (A : Around) (s : Shared) (a t0 : Addr) (R : Result → Shared → Prop), Nms X.K s.heap → s.heap.NoLimit → A.depth < recursionLimit → s.heap.get? a = some (excD (He.ga X.K x) t0 none) → X.K.lookup a = none →
      (∀ h' tk dx t1 mA, (∀ b o, b ≠ a → s.heap.get? b = some o → h'.get? b = some o) → s.heap.get? dx = none → dx ≠ a → h'.get? a = some (excD (He.ga X.K x) t1 (some dx)) → h'.Ns1 dx mA → (∀ f, RelO ((fs dx).lookup f) (mA f)) → R (.ok (.ret .none)) { s with heap := h', toks := tk }) →
      codeAny (model X.prog X.w) A (.call (.ref fI) ⟨.ref a :: us, []⟩) R s)
    (q : ∀ dx, H1 dx = none → Q (.ref (He.ga X.K x)) (some dx) (upd H1 dx (.xd (fs dx)))) :
    wpAny (model X.prog X.w) X.A (call (.ref (He.ga X.K x)) us) (MkP X pins σ Q) X.xe s1 := by
  obtain ⟨nm, qn, N, bs, bm, sn, sub, ab, col, dd, k0, k1, k2, k3, k5, hC, hbm⟩ := ex.cls
  obtain ⟨hp, g, dr, tk, os⟩ := s1
  have kk : ∀ b o, hp.get? b = some o → ((hp.push (PySem.W.kdv_tup us)).push (PySem.HandSPX.excO (He.ga X.K x) hp.objs.size)).get? b = some o := fun b o z => Heap.get?_push_of_some _ (Heap.get?_push_of_some _ z)
  have hget : ((hp.push (PySem.W.kdv_tup us)).push (PySem.HandSPX.excO (He.ga X.K x) hp.objs.size)).get? (hp.objs.size + 1) = some (excD (He.ga X.K x) hp.objs.size none) := by heap_get
  have Ka : X.K.lookup (hp.objs.size + 1) = none := by
    cases z : X.K.lookup (hp.objs.size + 1) with
    | none => rfl
    | some o => exact absurd (Heap.lt_size (I1.kIn _ _ z)) (by show ¬ (hp.objs.size + 1 < hp.objs.size); omega)
  have N1 := (nms_of I1 hs).keeps kk
  refine wpAny_call (PySem.HandSPX.call_own F.excBase_ValueError (fun Y => PySem.HandSPX.refsVE_contains Y bm hbm) (I1.kIn _ _ hC) (PySem.W.looks_findIn I1.kIn own) (fun self => PySem.W.bind_fn I1.kIn self tI) hl
    (run _ ⟨_, g, dr, tk, os⟩ (hp.objs.size + 1) hp.objs.size _ N1 (I1.nolimit.keeps kk) (hr.make (He.ga X.K x) us []).depth hget Ka fun h' tk' dx t1 mA k2 nd ne hx hn rel => ⟨rfl, ?_⟩))
  refine mk_made (dx := dx) ex I1 (Nat.le_succ _) (fun b o hb z => k2 b o hb (kk b o z)) ?_ ne hx hn rel (q dx ?_)
  · cases z : hp.get? dx with
    | none => rfl
    | some o => rw [show Heap.get? _ dx = some o from kk dx o z] at nd; cases nd
  · refine I1.hok.gone ?_
    cases z : hp.get? dx with
    | none => rfl
    | some o => rw [show Heap.get? _ dx = some o from kk dx o z] at nd; cases nd
theorem pmk_1 (E : Ex1 X.prog X.w X.K X.mg x f) (hs : X.mg "super" = none) (hr : Room (k + 1) X.A) (hg : Gl X x) (he : PE X e te)
    (hdb : (x == ("__debug__" : Str)) = false := by decide) (hst : starEach [e] X.env = (false, eval e X.env) :: starEach [] X.env := by rfl) :
    PMk X (.Call (.Name x p) [e] [] pos) (fun σ H Q => te σ H fun v H1 => ∀ dx, H1 dx = none → Q (.ref (He.ga X.K x)) (some dx) (upd H1 dx (.xd [(f, v)]))) := by
  intro pins s σ H Q I h
  obtain ⟨fI, own, tI, run⟩ := E.ini
  refine wpAny_Call_Name_kw (ld_glob I hg E.mg ?_ hdb)
  refine PySem.W.callWith_K (h₀ := X.base) I.ok.mod.kin E.ex.kC ?_ hst (by rfl)
  rw [hst]
  show wpAny _ _ (spliced ((false, eval e X.env) :: backTo pos (starEach [] X.env))) _ _ s
  refine Calls.spliced_cons (thn (he.run pins s σ H _ I h) fun u s1 ⟨v, H1, I1, r1, q1⟩ => Calls.spliced_nil ⟨I1.kIn, ?_⟩)
  refine made_call (fs := fun _ => [(f, v)]) E.ex hs hr I1 (by show 1 ≤ sizeLine; decide) own tI (fun A s a t0 R n1 n2 n3 n4 n5 q => run A s a t0 u R n1 n2 n3 n4 n5 fun h' tk dx t1 k nd ne hx hn => q h' tk dx t1 _ k nd ne hx hn fun z => ?_) q1
  rw [lookup_put]
  by_cases e : z = f
  · rw [if_pos e, if_pos e]; exact r1
  · rw [if_neg e, if_neg e]; trivial
theorem pmk_2 (E : Ex2 X.prog X.w X.K X.mg x f f2) (hs : X.mg "super" = none) (hr : Room (k + 1) X.A) (hg : Gl X x) (he : PE X e te) (he2 : PE X e2 te2)
    (hdb : (x == ("__debug__" : Str)) = false := by decide) (hst : starEach [e, e2] X.env = (false, eval e X.env) :: starEach [e2] X.env := by rfl) (hst2 : starEach [e2] X.env = (false, eval e2 X.env) :: starEach [] X.env := by rfl) (hpl : (backTo pos (starEach [e2] X.env)).any (·.1) = false := by rfl) :
    PMk X (.Call (.Name x p) [e, e2] [] pos) (fun σ H Q => te σ H fun v H1 => te2 σ H1 fun v2 H2 => ∀ dx, H2 dx = none → Q (.ref (He.ga X.K x)) (some dx) (upd H2 dx (.xd [(f2, v2), (f, v)]))) := by
  intro pins s σ H Q I h
  obtain ⟨fI, own, tI, run⟩ := E.ini
  refine wpAny_Call_Name_kw (ld_glob I hg E.mg ?_ hdb)
  refine PySem.W.callWith_K (h₀ := X.base) I.ok.mod.kin E.ex.kC ?_ hst hpl
  rw [hst, hst2]
  show wpAny _ _ (spliced ((false, eval e X.env) :: (false, eval e2 X.env) :: backTo pos (starEach [] X.env))) _ _ s
  refine Calls.spliced_cons (thn (he.run pins s σ H _ I h) fun u s1 ⟨v, H1, I1, r1, q1⟩ => Calls.spliced_cons (thn (he2.run pins s1 σ H1 _ I1 q1) fun u2 s2 ⟨v2, H2, I2, r2, q2⟩ => Calls.spliced_nil ⟨I2.kIn, ?_⟩))
  refine made_call (fs := fun _ => [(f2, v2), (f, v)]) E.ex hs hr I2 (by show 2 ≤ sizeLine; decide) own tI (fun A s a t0 R n1 n2 n3 n4 n5 q => run A s a t0 u u2 R n1 n2 n3 n4 n5 fun h' tk dx t1 k nd ne hx hn => q h' tk dx t1 _ k nd ne hx hn fun z => ?_) q2
  rw [lookup_put, lookup_put]
  by_cases e : z = f2
  · rw [if_pos e, if_pos e]; exact r2
  · rw [if_neg e, if_neg e]
    by_cases e : z = f
    · rw [if_pos e, if_pos e]; exact r1
    · rw [if_neg e, if_neg e]; trivial
/-- raise C(x, ..): by data -/
def raiseM (c : Str) (fs : List Str) (ms : M (List D)) : M Fl := bindM ms fun ds ρ => if ds.length = fs.length then .exc ⟨c, (fs.zip ds).reverse⟩ ρ else .no
theorem ds_raise1 {m : M D} (E : Ex1 X.prog X.w X.K X.mg x f) (hs : X.mg "super" = none) (hr : Room (k + 1) X.A) (hc : X.calm = true) (tk : Takes X C.W) (wk : Wk ω C.ωe) (he : DE X C.W ω e .fz m) (hg : Gl X x := by rfl)
    (hdb : (x == ("__debug__" : Str)) = false := by decide) (hst : starEach [e] X.env = (false, eval e X.env) :: starEach [] X.env := by rfl) :
    DS X C ω (.Raise (some (.Call (.Name x p) [e] [] pos)) none pos2) ω' (raiseM x [f] (consM m nilM)) :=
  PS.imp (ps_raise hc tk (pmk_1 (k := k) E hs hr hg he hdb hst)) fun D σ H ⟨F, G, ρ, S, q⟩ => by
    have q := Res.sat_bind (Res.sat_bind q)
    refine ⟨F, G, ρ, S, Res.sat_mono q (fun d ρ1 q1 v F1 H1 l S1 dx nd => ?_) fun _ _ z => z.zx wk⟩
    obtain ⟨r, S2⟩ := S1.top
    obtain ⟨F2, l2, S3⟩ := (S2.newX (o := .xd [(f, v)]) nd).wk wk
    have q1 : zS X.K X.mg C F G ⟨x, [(f, d)]⟩ ρ1 := q1
    exact q1 σ F2 _ _ _ (l.trans l2) S3 ⟨_, rfl, E.mg, [(f, v)], upd_same, rfl, .cons (r.mono l2) .nil⟩
theorem ds_raise2 {m m2 : M D} (E : Ex2 X.prog X.w X.K X.mg x f f2) (hs : X.mg "super" = none) (hr : Room (k + 1) X.A) (hc : X.calm = true) (tk : Takes X C.W) (wk : Wk ω C.ωe) (he : DE X C.W ω e .fz m) (he2 : DE X C.W ω e2 .fz m2) (hg : Gl X x := by rfl)
    (hdb : (x == ("__debug__" : Str)) = false := by decide) (hst : starEach [e, e2] X.env = (false, eval e X.env) :: starEach [e2] X.env := by rfl) (hst2 : starEach [e2] X.env = (false, eval e2 X.env) :: starEach [] X.env := by rfl) (hpl : (backTo pos (starEach [e2] X.env)).any (·.1) = false := by rfl) :
    DS X C ω (.Raise (some (.Call (.Name x p) [e, e2] [] pos)) none pos2) ω' (raiseM x [f, f2] (consM m (consM m2 nilM))) :=
  PS.imp (ps_raise hc tk (pmk_2 (k := k) E hs hr hg he he2 hdb hst hst2 hpl)) fun D σ H ⟨F, G, ρ, S, q⟩ => by
    have q := Res.sat_bind (Res.sat_bind q)
    refine ⟨F, G, ρ, S, Res.sat_mono q (fun d ρ1 q1 v F1 H1 l S1 => ?_) fun _ _ z => z.zx wk⟩
    obtain ⟨r, S2⟩ := S1.top
    have q1 := Res.sat_bind (Res.sat_bind q1)
    refine ⟨F1, G, ρ1, S2, Res.sat_mono q1 (fun d2 ρ2 q2 v2 F2 H2 l2 S3 dx nd => ?_) fun _ _ z => (z.le l).zx wk⟩
    obtain ⟨r2, S4⟩ := S3.top
    obtain ⟨F3, l3, S5⟩ := (S4.newX (o := .xd [(f2, v2), (f, v)]) nd).wk wk
    have q2 : zS X.K X.mg C F G ⟨x, [(f2, d2), (f, d)]⟩ ρ2 := q2
    exact q2 σ F3 _ _ _ (l.trans (l2.trans l3)) S5 ⟨_, rfl, E.mg, [(f2, v2), (f, v)], upd_same, rfl, .cons (r2.mono l3) (.cons (r.mono (l2.trans l3)) .nil)⟩
end
@[simp] theorem s_raise {c : Str} {fs : List Str} {ms : M (List D)} {ρ : Rho} : raiseM c fs ms ρ = (bindM ms fun ds ρ => if ds.length = fs.length then .exc ⟨c, (fs.zip ds).reverse⟩ ρ else .no) ρ := rfl
end DL
/-! DL: own exceptions by what the head says. -/
namespace DL
open PySem PySem.Spec PyProof.Rows L2
section
variable {P : Program} {w : World} {K : Fg} {mg : Str → Option Value} {d : XD} {f f2 : Str} {ar : Arg} {p0 p1 p2 p3 q3 p4 p5 p6 p7 p8 p9 q6 q7 q8 q9 : Pos}
theorem file_of {cda : Addr} {file : Str} (h : fileB K cda file = true) (hP : (P.main.file == file) = true) : ∃ ccl cdd vs ccs fl tf, K.lookup cda = some ⟨ccl, cdd, .fields vs, ccs⟩ ∧ vs[2]? = some (.str fl tf) ∧ ((P.main.file : Str) == fl) = true := by
  unfold fileB at h
  split at h
  · rename_i c1 c2 vs c3 q
    split at h
    · rename_i fl tf q2
      refine ⟨_, _, _, _, fl, tf, q, q2, ?_⟩
      rw [eq_of_beq hP]; exact h
    · cases h
  · cases h
theorem cell_of {cc C : Addr} (h : cellB K cc C = true) : ∃ cl cld csl, K.lookup cc = some ⟨cl, cld, .cell (some (.ref C)), csl⟩ := by
  unfold cellB at h
  split at h
  · rename_i c1 c2 C' c3 q
    obtain rfl := of_decide_eq_true h
    exact ⟨_, _, _, q⟩
  · cases h
theorem ex1_of (c : fnWE K d.x = d.val ∧ d.ok K = true) (hmg : mg d.x = some (.ref (He.ga K d.x))) (hfile : (P.main.file == d.file) = true) (htop : (P.main.scope.names.lookup ("super" : Str)).isSome = false) (hfs : f ∈ d.fs) (S : SupS d.scope "self" [f]) (hne : ("self" : Str) ≠ f)
    (hbody : d.body = [.Expr (.Call (.Attribute (.Call (.Name "super" p0) [] [] p1) "__init__" p2) [.Name f p3] [] p4) p5, .Assign [.Attribute (.Name "self" p6) f p7] (.Name f p8) p9])
    (hp : (d.params.posonlyargs ++ d.params.args).head? = some ar) (har : ar.arg = "self")
    (hbind : ∀ (kV doc pm : Value) (an : Option Addr) (cda : Addr) (ct : Value) (cc a : Addr) (u : Value), bindArgs (PySem.W.ksFn "__init__" d.qual d.params d.body d.scope .none kV doc pm an (.ref cda) ct cc) ⟨[.ref a, u], []⟩ = pure [(("self" : Str), Value.ref a), (f, u)])
    (Se : ∀ fI cda cc, SupE d.qual d.scope fI cda cc (.Name f p3) [] p0 p1 p2 p4 p5)
    (hsw : ∀ fI cda cc L, swapsWith (.Name f p8) (some (.Attribute (.Name "self" p6) f p7)) p9.line (supEnv d.qual d.scope L fI cda cc) = pure false) (hd2 : (f == ("__debug__" : Str)) = false := by decide) : Ex1 P w K mg d.x f := by
  obtain ⟨oc, od, kV, doc, pm, an, cda, ct, cc, osl, lk, c1, c2, c3, c4, c5, c6, c7, c8, c9, c10, c11⟩ := XD.says c.1 c.2
  have T : SupC P K (He.ga K d.x) (xIni K d.x) cda cc d.qual := ⟨oexB.ok c4, c5, c6, c1, file_of c2 hfile, htop, cell_of c3, c7, c8, c9, c10⟩
  refine ⟨hmg, oexB.ok c4, xIni K d.x, c5, c6, fun A s a t0 u R N lim hroom ha hKa h => ?_⟩
  exact init_one (oc := oc) (od := od) (osl := osl) (name := "__init__") (dV := .none) (kV := kV) (doc := doc) (pm := pm) (an := an) (ct := ct) T S N lim hroom hne hbody lk hp har (.of_eq (hbind kV doc pm an cda ct cc a u)) (Se _ _ _) (c11 f hfs) ha hKa (by decide) hd2 (hsw _ _ _) h
theorem ex2_of (c : fnWE K d.x = d.val ∧ d.ok K = true) (hmg : mg d.x = some (.ref (He.ga K d.x))) (hfile : (P.main.file == d.file) = true) (htop : (P.main.scope.names.lookup ("super" : Str)).isSome = false) (hfs : f ∈ d.fs) (hfs2 : f2 ∈ d.fs) (S : SupS d.scope "self" [f, f2]) (hne : ("self" : Str) ≠ f) (hne2 : ("self" : Str) ≠ f2) (hff : f ≠ f2)
    (hbody : d.body = [.Expr (.Call (.Attribute (.Call (.Name "super" p0) [] [] p1) "__init__" p2) [.Name f p3, .Name f2 q3] [] p4) p5, .Assign [.Attribute (.Name "self" p6) f p7] (.Name f p8) p9, .Assign [.Attribute (.Name "self" q6) f2 q7] (.Name f2 q8) q9])
    (hp : (d.params.posonlyargs ++ d.params.args).head? = some ar) (har : ar.arg = "self")
    (hbind : ∀ (kV doc pm : Value) (an : Option Addr) (cda : Addr) (ct : Value) (cc a : Addr) (u v : Value), bindArgs (PySem.W.ksFn "__init__" d.qual d.params d.body d.scope .none kV doc pm an (.ref cda) ct cc) ⟨[.ref a, u, v], []⟩ = pure [(("self" : Str), Value.ref a), (f, u), (f2, v)])
    (Se : ∀ fI cda cc, SupE d.qual d.scope fI cda cc (.Name f p3) [.Name f2 q3] p0 p1 p2 p4 p5)
    (he2 : ∀ fI cda cc L, starEach [.Name f2 q3] (supEnv d.qual d.scope L fI cda cc) = (false, eval (.Name f2 q3) (supEnv d.qual d.scope L fI cda cc)) :: starEach [] (supEnv d.qual d.scope L fI cda cc))
    (hsw : ∀ fI cda cc L, swapsWith (.Name f p8) (some (.Attribute (.Name "self" p6) f p7)) p9.line (supEnv d.qual d.scope L fI cda cc) = pure false) (hsw2 : ∀ fI cda cc L, swapsWith (.Name f2 q8) (some (.Attribute (.Name "self" q6) f2 q7)) q9.line (supEnv d.qual d.scope L fI cda cc) = pure false)
    (hd2 : (f == ("__debug__" : Str)) = false := by decide) (hd3 : (f2 == ("__debug__" : Str)) = false := by decide) : Ex2 P w K mg d.x f f2 := by
  obtain ⟨oc, od, kV, doc, pm, an, cda, ct, cc, osl, lk, c1, c2, c3, c4, c5, c6, c7, c8, c9, c10, c11⟩ := XD.says c.1 c.2
  have T : SupC P K (He.ga K d.x) (xIni K d.x) cda cc d.qual := ⟨oexB.ok c4, c5, c6, c1, file_of c2 hfile, htop, cell_of c3, c7, c8, c9, c10⟩
  refine ⟨hmg, oexB.ok c4, xIni K d.x, c5, c6, fun A s a t0 u v R N lim hroom ha hKa h => ?_⟩
  exact init_two (oc := oc) (od := od) (osl := osl) (name := "__init__") (dV := .none) (kV := kV) (doc := doc) (pm := pm) (an := an) (ct := ct) T S N lim hroom hne hne2 hff hbody lk hp har (.of_eq (hbind kV doc pm an cda ct cc a u v)) (Se _ _ _) (he2 _ _ _) (c11 f hfs) (c11 f2 hfs2) ha hKa (by decide) hd2 hd3 (hsw _ _ _) (hsw2 _ _ _) h
end
end DL
/-! DL: a lambda made, handed to a def, called there. -/
namespace DL
open PySem PySem.Spec PyProof.Rows L2
/-- the lambda's names: ps its parameters, new ones; captured ones; globals -/
structure LamD (N : List Str) (sc scope : Scope) (ps : List Str) : Prop where
  kind : scope.kind = .function
  co : scope.isCoroutine = false
  gen : scope.isGenerator = false
  cell : ∀ y ∈ scope.names, y.2 ≠ .cell
  loc : ∀ y ∈ scope.names, y.2 = .local → y.1 ∈ ps
  par : ∀ x ∈ ps, scope.names.lookup x = some .local
  new : ∀ x ∈ ps, x ∉ N
  free : ∀ y ∈ scope.names, y.2 = .free → sc.names.lookup y.1 = some .cell ∨ sc.names.lookup y.1 = some .free
def lamDB (N : List Str) (sc scope : Scope) (ps : List Str) : Bool :=
  decide (scope.kind = .function) && (!scope.isCoroutine && (!scope.isGenerator && ((scope.names.all fun y => !decide (y.2 = .cell) && ((!decide (y.2 = .local) || decide (y.1 ∈ ps)) && (!decide (y.2 = .free) || (decide (sc.names.lookup y.1 = some .cell) || decide (sc.names.lookup y.1 = some .free))))) &&
    ps.all fun x => decide (scope.names.lookup x = some .local) && decide (x ∉ N))))
theorem lamD_by {N : List Str} {sc scope : Scope} {ps : List Str} (h : lamDB N sc scope ps = true) : LamD N sc scope ps := by
  unfold lamDB at h
  simp only [Bool.and_eq_true, Bool.or_eq_true, Bool.not_eq_true', decide_eq_true_eq, decide_eq_false_iff_not, List.all_eq_true] at h
  obtain ⟨h1, h2, h3, h4, h5⟩ := h
  exact ⟨h1, h2, h3, fun y hy => (h4 y hy).1, fun y hy e => (h4 y hy).2.1.resolve_left fun z => z e, fun x hx => (h5 x hx).1, fun x hx => (h5 x hx).2, fun y hy e => (h4 y hy).2.2.resolve_left fun z => z e⟩
theorem LamD.has {X : Cx} {scope : Scope} {ps : List Str} (L : LamD X.N X.env.scope scope ps) (ok : X.Ok) : ∀ y ∈ scope.names, y.2 = .free → ∃ c, X.env.cells.lookup y.1 = some c := fun y hy e => by
  rcases L.free y hy e with z | z
  · exact ok.has _ (.inl z)
  · exact ok.has _ (.inr z)
/-- the defaults: none, or a tuple laid in the heap -/
def DfO (X : Cx) (s : Shared) (H : Hp) (dV : Value) (zs : List Value) : Prop := (dV = .none ∧ zs = []) ∨ ∃ T, zs ≠ [] ∧ dV = .ref T ∧ s.heap.get? T = some (PySem.W.kdv_tup zs) ∧ H T = none ∧ T ∉ frs X.stack
abbrev lamObj (X : Cx) (params : Arguments) (body : Expr) (scope : Scope) (dV doc pm : Value) (c' : Addr) (ctv : Value) : Obj :=
  PySem.W.kdv_obj "<lambda>" (X.env.qual ++ "<lambda>") params (.expr body) scope (cloFrom X.env.cells scope.names []) dV doc pm c' ctv
section
variable {X : Cx} {pins : List (Addr × Obj)} {σ : L2.St} {H : Hp} {s : Shared}
theorem new_frame {f : Addr} (I : Inv X pins σ H s) (hf : s.heap.objs.size ≤ f) : f ∉ frs X.stack := fun z => by
  rcases List.mem_cons.mp (I.stkSub _ z) with e | e
  · rw [e] at hf
    exact absurd I.lt (Nat.not_lt.mpr hf)
  · exact I.nofs hf e
/-- what stands behind the making -/
def LamAt (X : Cx) (params : Arguments) (body : Expr) (scope : Scope) (zs : List Value) (f : Addr) (H1 : Hp) (s' : Shared) : Prop := ∃ (c' : Addr) (pm doc ctv dV : Value),
  s'.heap.get? f = some (lamObj X params body scope dV doc pm c' ctv) ∧ H1 f = none ∧ f ∉ frs X.stack ∧ H1 c' = some (LamX.CodeO c' (X.env.qual ++ "<lambda>")) ∧ DfO X s' H1 dV zs
theorem lam_tail {T : List (Addr × Str)} {c P : Addr} {params : Arguments} {body : Expr} {scope : Scope} {ps : List Str} {pos : Pos} {dV : Value} {zs : List Value} {E : Value → Shared → Prop} {Q : Value → Shared → Prop} (L : LamD X.N X.env.scope scope ps) (I : Inv X pins σ H s) (TB : LamX.TabB X.base X.mg c P) (hcode : X.env.code = .ref c)
    (hm : (P, X.env.qual ++ "<lambda>") ∈ T) (hu : ∀ p ∈ T, p.1 = P → p.2 = X.env.qual ++ "<lambda>") (hT : LamX.Tabs T H) (hdf : DfO X s H dV zs)
    (h : ∀ f H1 s', Inv X pins σ H1 s' → (∀ b o, b ≠ P → H b = some o → H1 b = some o) → (∃ ps', H1 P = some (.tbl ps')) → (∀ b, H b = none → H1 b ≠ none → ∃ φ, H1 b = some (.ext φ)) → LamX.Tabs T H1 → LamAt X params body scope zs f H1 s' → Q (.ref f) s') :
    wpAny (model X.prog X.w) X.A (makeTail "<lambda>" (X.env.qual ++ "<lambda>") params (.expr body) scope X.env dV .none none pos pos.line) Q E s := by
  obtain ⟨ps, hP, ht, ha⟩ := hT _ hm
  have bP : s.heap.BuiltinsAt X.mg P := TB.bm.keeps I.bk
  have hP' : s.heap.get? P = some { cls := .none, data := .fields ps } := I.hok P _ hP
  have dfk : ∀ {H1 : Hp} {s' : Shared}, (∀ b o, b ≠ P → s.heap.get? b = some o → s'.heap.get? b = some o) → (∀ b, b ≠ P → H b = none → (∃ o, s.heap.get? b = some o) → H1 b = none) → DfO X s' H1 dV zs := fun {H1 s'} k k2 => by
    rcases hdf with z | ⟨T0, e0, e1, e2, e3, e4⟩
    · exact .inl z
    · have ne : T0 ≠ P := fun z => by rw [z, hP] at e3; cases e3
      exact .inr ⟨T0, e0, e1, k _ _ ne e2, k2 _ ne e3 ⟨_, e2⟩, e4⟩
  cases hc : codeAmong pos ps.toList with
  | none =>
    refine PySem.W.kdv_makeTail (mg := X.mg) (c := c) (P := P) (ps := ps) (closure_ok (L.has I.ok)) I.ok.glob (I.mod.glob.keeps I.bk) hcode (TB.code.keeps I.bk) hP' ht hc TB.gP bP fun c' ctv doc h' tk hx hge hlt hrec htb => ?_
    obtain ⟨c2, oc, vs, t, e2, hoc, hd, hv⟩ := hrec
    cases e2
    have hsz : s.heap.objs.size ≤ h'.objs.size := Nat.le_trans hge (Nat.le_of_lt hlt)
    have nC : H c' = none := I.hok.fresh hge
    have nPc : P ≠ c' := ne_of_none hP nC
    have n1 : h'.objs.size ≠ c' := Nat.ne_of_gt hlt
    have n2 : h'.objs.size ≠ P := Nat.ne_of_gt (Nat.lt_of_lt_of_le (Heap.lt_size hP') hsz)
    have I1 := LamX.inv_table (t' := tk) (more := #[rawInt pos.line, rawInt pos.col, .ref c']) (h' := h'.push (lamObj X params body scope dV doc ((X.mg "__name__").getD .none) c' ctv)) I hP
      (fun b o hb e => Heap.get?_push_of_some _ (hx b o hb e)) (Heap.get?_push_of_some _ htb) hge ⟨oc, vs, t, Heap.get?_push_of_some _ hoc, hd, hv⟩
    refine h h'.objs.size _ _ I1 (fun b o hb e => ?_) ⟨_, by rw [upd_ne nPc, upd_same]⟩ (fun b e q => ?_) (fun p hp => ?_) ⟨c', _, doc, ctv, dV, Heap.get?_push_size _ rfl, ?_, new_frame I hsz, upd_same, dfk (fun b o hb e => Heap.get?_push_of_some _ (hx b o hb e)) fun b hb n => ?_⟩
    · rw [upd_ne (ne_of_none e nC), upd_ne hb]; exact e
    · by_cases hb : b = c'
      · subst hb; exact ⟨_, upd_same⟩
      · exact absurd (by rw [upd_ne hb, upd_ne (fun z => by rw [z, hP] at e; cases e)]; exact e) q
    · by_cases hb : p.1 = P
      · rw [hu p hp hb, hb]
        have eL : (ps ++ #[rawInt pos.line, rawInt pos.col, .ref c']).toList = ps.toList ++ [rawInt pos.line, rawInt pos.col, .ref c'] := by simp
        refine ⟨_, by rw [upd_ne nPc, upd_same], by rw [eL]; exact PySem.TriplesOk_snoc _ _ _ _ ht, fun p' cv hcv => ?_⟩
        rw [eL] at hcv
        rcases LamX.among_app _ ht hcv with z | z
        · obtain ⟨c0, e1, e2⟩ := ha p' cv z
          refine ⟨c0, e1, ?_⟩
          rw [upd_ne (ne_of_none e2 nC), upd_ne fun y => LamX.codeO_ne ps (Option.some.inj (e2.symm.trans (by rw [y]; exact hP)))]
          exact e2
        · exact ⟨c', z, upd_same⟩
      · refine tabS_up (hT p hp) (fun ps' z => by rw [upd_ne (ne_of_none z nC), upd_ne hb]; exact z) fun c0 φ z => ?_
        rw [upd_ne (ne_of_none z nC), upd_ne fun y => by rw [y, hP] at z; cases z]
        exact z
    · rw [upd_ne n1, upd_ne n2]; exact I.hok.fresh hsz
    · rintro ⟨o, e⟩
      rw [upd_ne (Nat.ne_of_lt (Nat.lt_of_lt_of_le (Heap.lt_size e) hge)), upd_ne hb]; exact n
  | some cv =>
    obtain ⟨c', e, hco⟩ := ha pos cv hc
    subst e
    refine PySem.W.kdv_makeTailHit (mg := X.mg) (c := c) (P := P) (ps := ps) (closure_ok (L.has I.ok)) I.ok.glob (I.mod.glob.keeps I.bk) hcode (TB.code.keeps I.bk) hP' ht hc bP fun ctv doc h' tk hx hsz => ?_
    have k : ∀ b o, s.heap.get? b = some o → (h'.push (lamObj X params body scope dV doc ((X.mg "__name__").getD .none) c' ctv)).get? b = some o := fun b o e => Heap.get?_push_of_some _ (hx b o e)
    have I1 : Inv X pins σ H { s with heap := h'.push (lamObj X params body scope dV doc ((X.mg "__name__").getD .none) c' ctv), toks := tk } := I.kept k
    exact h h'.objs.size H _ I1 (fun _ _ _ e => e) ⟨ps, hP⟩ (fun b e q => absurd e q) hT ⟨c', _, doc, ctv, dV, Heap.get?_push_size _ rfl, I.hok.fresh hsz, new_frame I hsz, hco, dfk (fun b o _ e => k b o e) fun _ _ n _ => n⟩
/-- the lambda is made -/
theorem lam_make {T : List (Addr × Str)} {c P : Addr} {params : Arguments} {body : Expr} {scope : Scope} {ps : List Str} {pos : Pos} {ds : List Expr} {E : Value → Shared → Prop} {Q : Value → Shared → Prop} (L : LamD X.N X.env.scope scope ps) (I : Inv X pins σ H s) (TB : LamX.TabB X.base X.mg c P) (hcode : X.env.code = .ref c)
    (hm : (P, X.env.qual ++ "<lambda>") ∈ T) (hu : ∀ p ∈ T, p.1 = P → p.2 = X.env.qual ++ "<lambda>") (hT : LamX.Tabs T H) (hdef : defaultsOf params X.env = (evalEach ds X.env, [])) (hds : ∀ e ∈ ds, e.isPlainConst = true)
    (h : ∀ zs f H1 s', ConstVals ds zs → Inv X pins σ H1 s' → (∀ b o, b ≠ P → H b = some o → H1 b = some o) → (∃ ps', H1 P = some (.tbl ps')) → (∀ b, H b = none → H1 b ≠ none → ∃ φ, H1 b = some (.ext φ)) → LamX.Tabs T H1 → LamAt X params body scope zs f H1 s' → Q (.ref f) s') :
    wpAny (model X.prog X.w) X.A (eval (.Lambda params body scope pos) X.env) Q E s := by
  rw [arm_eval_Lambda, hdef]
  refine wpAny_bind (wpAny_evalAll_consts ds s _ hds fun zs tk hz => wpAny_bind (wpAny_holding (wpAny_pure ?_)))
  have I1 : Inv X pins σ H { s with toks := tk } := I.tok tk
  rw [makeFunction_eq]
  simp only [List.zip_nil_right, List.filterMap_nil, List.isEmpty_nil, if_true, pure_bind]
  cases zs with
  | nil =>
    simp only [List.isEmpty_nil, if_true, pure_bind]
    exact lam_tail L I1 TB hcode hm hu hT (.inl ⟨rfl, rfl⟩) fun f H1 s' => h [] f H1 s' hz
  | cons z zs =>
    simp only [List.isEmpty_cons, Bool.false_eq_true, if_false]
    refine wpAny_bind (wpAny_newTextTuple ?_)
    have I2 : Inv X pins σ H { s with heap := s.heap.push (PySem.W.kdv_tup (z :: zs)), toks := tk } := I.kept (t' := tk) fun b o e => Heap.get?_push_of_some _ e
    exact lam_tail L I2 TB hcode hm hu hT (.inr ⟨_, List.cons_ne_nil _ _, rfl, Heap.get?_push_size _ rfl, I.hok.fresh (Nat.le_refl _), new_frame I (Nat.le_refl _)⟩) fun f H1 s' => h (z :: zs) f H1 s' hz
/-- the context of the lambda's body; ps its parameters' names -/
def lamC (X : Cx) (A : Around) (outer : List Env) (s : Shared) (H : Hp) (E : XK) (scope : Scope) (f c' : Addr) (ps : List Str) : Cx := { LamX.lamCx X A outer s H E scope f c' with N := X.N ++ ps }
theorem rev_lookup : ∀ {ps : List Str} {us : List Value} {j : Nat} {x : Str} {u : Value}, ps.Nodup → ps[j]? = some x → us[j]? = some u → (ps.zip us).reverse.lookup x = some u := by
  have app : ∀ {l l' : List (Str × Value)} {x : Str}, (∀ q ∈ l, q.1 ≠ x) → (l ++ l').lookup x = l'.lookup x := by
    intro l
    induction l with
    | nil => intro l' x _; rfl
    | cons q l ih =>
      intro l' x h
      have e : (x == q.1) = false := by simpa using Ne.symm (h q List.mem_cons_self)
      obtain ⟨a, b⟩ := q
      rw [List.cons_append, List.lookup_cons]
      simp only at e
      rw [e]
      exact ih fun q m => h q (List.mem_cons_of_mem _ m)
  have app2 : ∀ {l l' : List (Str × Value)} {x : Str} {u : Value}, l.lookup x = some u → (l ++ l').lookup x = some u := by
    intro l
    induction l with
    | nil => intro l' x u h; cases h
    | cons q l ih =>
      intro l' x u h
      obtain ⟨a, b⟩ := q
      rw [List.cons_append]
      rw [List.lookup_cons] at h ⊢
      cases e : (x == a) with
      | true => rw [e] at h; exact h
      | false => rw [e] at h; exact ih h
  intro ps
  induction ps with
  | nil => intro us j x u _ h; simp at h
  | cons p ps ih =>
    intro us j x u nd h1 h2
    cases us with
    | nil => simp at h2
    | cons v us =>
      obtain ⟨n1, n2⟩ := List.nodup_cons.mp nd
      rw [List.zip_cons_cons, List.reverse_cons]
      cases j with
      | zero =>
        simp at h1 h2
        subst h1 h2
        rw [app fun q hq e => ?_]
        · simp [List.lookup]
        · have := (List.of_mem_zip (List.mem_reverse.mp hq)).1
          rw [e] at this
          exact n1 this
      | succ j => exact app2 (ih n2 (by simpa using h1) (by simpa using h2))
section
variable {A : Around} {outer : List Env} {s1 : Shared} {HZ : Hp} {E : XK} {Q : VK} {scope : Scope} {params : Arguments} {body : Expr} {ps : List Str} {f c' : Addr} {dV doc pm ctv : Value} {us us0 : List Value} {vs : List V} {tb : TE} {k : Nat}
theorem lam_inv {h₁ : Heap} {tk : Nat} (I : Inv X pins σ H s) (L : LamD X.N X.env.scope scope ps) (nd : ps.Nodup) (uc : ∀ y c, X.env.cells.lookup y = some c → HZ c = none ∧ ∀ o, s.heap.get? c = some o → s1.heap.get? c = some o) (e0 : Env0 X.prog X.w X.K X.mg X.base A outer s1 HZ) (hd : A.handled = none) (r : Vals vs us) (hl : us.length = ps.length)
    (hns : h₁.Ns s1.heap.objs.size fun y => (ps.zip us).reverse.lookup y) (kp : ∀ b o, s1.heap.get? b = some o → h₁.get? b = some o) : Inv (lamC X A outer s1 HZ E scope f c' ps) [] (σ ++ vs.map some) HZ { s1 with heap := h₁, toks := tk } := by
  have hfree := L.has I.ok
  have lenV : vs.length = ps.length := by rw [r.length]; exact hl
  have clo : ∀ {y c}, (cloFrom X.env.cells scope.names []).lookup y = some c → X.env.cells.lookup y = some c := fun {y c} e => by
    rcases cloFrom_mem (PySem.mem_of_lookup e) with hm | ⟨h1, h2⟩
    · cases hm
    · obtain ⟨c1, hc⟩ := hfree _ h1 rfl
      have hc : X.env.cells.lookup y = some c1 := hc
      have e2 : c = c1 := by rw [h2, hc] <;> rfl
      rw [e2]; exact hc
  have has : ∀ {y}, scope.names.lookup y = some .free → ∃ c, (cloFrom X.env.cells scope.names []).lookup y = some c := fun {y} e => mem_lookup (cloFrom_has (cells := X.env.cells) (acc := []) (show (y, NameKind.free) ∈ scope.names from PySem.mem_of_lookup e))
  have cel : ∀ {y : Str} {c : Addr} {v : Option Value}, X.env.cells.lookup y = some c → s.heap.IsCell c v → h₁.IsCell c v := fun {y c v} n ⟨o, ho, hd⟩ => ⟨_, kp _ _ ((uc y c n).2 o ho), hd⟩
  have noA : ∀ b : Addr, b ∉ (lamC X A outer s1 HZ E scope f c' ps).ex := fun b z => absurd (show b ∈ ([] : List Addr) from z) (by simp)
  have ok : (lamC X A outer s1 HZ E scope f c' ps).Ok := by
    refine ⟨e0.mod, L.kind, rfl, rfl, Nat.le_refl _, fun y z c e1 e2 => I.ok.inj y z c (clo e1) (clo e2), fun y hy => ?_, fun y c z _ => ?_, fun _ => hd, Around.frames_deeper e0.frames, .inr ⟨rfl, rfl⟩, fun b z => absurd z (noA b), e0.bs, e0.bsz, fun b _ _ => noA b, fun b z => absurd z (noA b), e0.funs, e0.frf⟩
    · have hy : scope.names.lookup y = some .cell ∨ scope.names.lookup y = some .free := hy
      rcases hy with hy | hy
      · exact absurd rfl (L.cell _ (PySem.mem_of_lookup hy))
      · exact has hy
    · have z : false = true := z
      cases z
  refine ⟨ok, rfl, e0.bare, Un.kept kp, ⟨_, hns, fun i y v e1 e2 e3 => ?_⟩, fun y c e => ?_, e0.hok.fresh (Nat.le_refl _), fun y c e => ?_, fun q hq => absurd (show q ∈ ([] : List (Addr × Obj)) ++ [] from hq) (by simp), e0.hok.kept kp, ?_⟩
  · have e1 : (X.N ++ ps)[i]? = some y := e1
    by_cases hi : i < X.N.length
    · rw [List.getElem?_append_left hi] at e1
      rw [List.getElem?_append_left (by rw [I.len]; exact hi)] at e2
      have yN : y ∈ X.N := List.mem_of_getElem? e1
      have e3 : Vis scope y := e3
      rcases e3 with q | q | q
      · exact absurd yN (L.new _ (L.loc _ (PySem.mem_of_lookup q) rfl))
      · exact absurd rfl (L.cell _ (PySem.mem_of_lookup q))
      · obtain ⟨m, hn, hlk⟩ := I.loc
        have hvis : Vis X.env.scope y := (L.free _ (PySem.mem_of_lookup q) rfl).elim (fun z => .inr (.inl z)) fun z => .inr (.inr z)
        obtain ⟨w', rw', z⟩ := hlk i y v e1 e2 hvis
        obtain ⟨c2, h2⟩ := has q
        refine ⟨w', rw', .inr ⟨.inr q, c2, h2, ?_⟩⟩
        rcases z with ⟨z, _⟩ | ⟨_, c3, e', z⟩
        · have z : X.env.scope.names.lookup y = some .local := z
          rcases L.free _ (PySem.mem_of_lookup q) rfl with t | t
          · rw [show X.env.scope.names.lookup y = _ from t] at z; cases z
          · rw [show X.env.scope.names.lookup y = _ from t] at z; cases z
        · rw [clo h2] at e'
          cases e'
          exact cel (clo h2) z
    · rw [List.getElem?_append_right (Nat.not_lt.mp hi)] at e1
      rw [List.getElem?_append_right (by rw [I.len]; exact Nat.not_lt.mp hi), I.len] at e2
      have yp : y ∈ ps := List.mem_of_getElem? e1
      obtain ⟨v', ev, ev2⟩ : ∃ v', vs[i - X.N.length]? = some v' ∧ some v' = some v := by
        rw [List.getElem?_map] at e2
        cases q : vs[i - X.N.length]? with
        | none => rw [q] at e2; cases e2
        | some v' => rw [q] at e2; exact ⟨v', rfl, by simpa using e2⟩
      cases ev2
      obtain ⟨u, eu, ru⟩ := r.get ev
      exact ⟨u, ru, .inl ⟨L.par y yp, rev_lookup nd e1 eu⟩⟩
  · obtain ⟨w', z⟩ := I.cell y c (clo e)
    exact ⟨w', cel (clo e) z⟩
  · exact (uc y c (clo e)).1
  · show (σ ++ vs.map some).length = (X.N ++ ps).length
    rw [List.length_append, List.length_append, List.length_map, I.len, lenV]
/-- the lambda is called: from any frames, at any later state -/
theorem lam_run (I : Inv X pins σ H s) (L : LamD X.N X.env.scope scope ps) (nd : ps.Nodup) (of : s1.heap.get? f = some (lamObj X params body scope dV doc pm c' ctv)) (uc : ∀ y c, X.env.cells.lookup y = some c → HZ c = none ∧ ∀ o, s.heap.get? c = some o → s1.heap.get? c = some o) (e0 : Env0 X.prog X.w X.K X.mg X.base A outer s1 HZ) (hr : Room (k + 1) A)
    (hc : HZ c' = some (LamX.CodeO c' (X.env.qual ++ "<lambda>"))) (hb : BindsTo s1 (PySem.W.kdv_fn "<lambda>" (X.env.qual ++ "<lambda>") params (.expr body) scope (cloFrom X.env.cells scope.names []) dV doc pm (.ref c') ctv) ⟨us0, []⟩ (ps.zip us)) (r : Vals vs us) (hl : us.length = ps.length)
    (hbody : Room k (A.deeper (LamX.lamEnv X scope s1.heap.objs.size f c')) → PE (lamC X A outer s1 HZ E scope f c' ps) body tb) (ht : tb (σ ++ vs.map some) HZ Q) :
    codeAny (model X.prog X.w) A (.call (.ref f) ⟨us0, []⟩) (CR (L2.CX X.prog X.w) outer X.prog X.w HZ s1 Q E) s1 := by
  obtain ⟨⟨oc, cvs, t, hoc, hdc, hvc⟩, _, _⟩ := e0.hok c' _ hc
  have lim : s1.heap.NoLimit := e0.mod.nolimit.keeps fun b o z => (e0.bs b o z).1
  refine PySem.W.kla_callFunE hr.depth of rfl L.co L.gen rfl ⟨c', oc, cvs, t, rfl, hoc, hdc, hvc⟩ (hb _ _ _ _ ?_)
  refine wpAny_newFunctionEnv L.cell (fun y hy => L.par _ (List.of_mem_zip hy).1) (fun h₁ hns hsb => ⟨lim.fresh _ hsb, ?_⟩) L.kind
  show codeAny _ _ (.expr body (LamX.lamEnv X scope s1.heap.objs.size f c')) _ _
  have kp : ∀ b o, s1.heap.get? b = some o → h₁.get? b = some o := fun b o z => hsb.extBut b o (Nat.ne_of_lt (Heap.lt_size z)) (Heap.get?_push_of_some _ z)
  have J := lam_inv (f := f) (c' := c') (E := E) (tk := s1.toks + (ps.zip us).length) I L nd uc e0 hr.hd r hl hns kp
  refine PySem.W.kla_codeExpr (wpAny_mono ((hbody (hr.deeper _)).run [] _ _ HZ Q J ht) (fun v s' hq => ?_) fun e s' hq => hq)
  obtain ⟨w', H', J', rv, q⟩ := hq
  exact ⟨w', H', J'.os, J'.bare, J'.base, J'.hok, rv, q⟩
end
end
end DL
/-! DL: try: .. except C as e: k = e; the caught one is known from then on. -/
namespace DL
open PySem PySem.Spec PyProof.Rows L2
section
variable {X : Cx} {pins : List (Addr × Obj)} {σ : L2.St} {H : Hp} {s : Shared}
/-- the suite is left, its exception still pinned -/
theorem unsuiteK {a : Addr} {q : Addr × Obj} {pn' : List (Addr × Obj)} (I : Inv (X.suite a (q :: (X.pn ++ pins))) pn' σ H s) (ok : X.Ok) : Inv X (q :: pins) σ H s :=
  ⟨ok, I.os, I.bare, I.base, I.loc, I.cell, I.free, I.freeC, fun p hp => I.pin p (List.mem_append_left _ (by
    rcases List.mem_append.mp hp with z | z
    · exact List.mem_cons_of_mem _ (List.mem_append_left _ z)
    · rcases List.mem_cons.mp z with z | z
      · rw [z]; exact List.mem_cons_self
      · exact List.mem_cons_of_mem _ (List.mem_append_right _ z))), I.hok, I.len⟩
/-- a pinned exception that is new is tracked -/
theorem track {a : Addr} {oe : Obj} {vs : Array Value} {cls : Value} {d : Option Addr} (I : Inv X ((a, oe) :: pins) σ H s) (h0 : X.s_0.heap.get? a = none) (hz : Zc cls d oe) (hd : oe.data = .fields vs) (hp : ∀ p ∈ X.pn ++ pins, p.1 ≠ a) (hcl : ∀ x c, X.env.cells.lookup x = some c → c ≠ a) :
    Inv X pins σ (upd H a (ExH a cls d)) s := by
  obtain ⟨e, n, nL, nF, _⟩ := I.pin (a, oe) (List.mem_append_right _ List.mem_cons_self)
  have e : s.heap.get? a = some oe := e
  have n : H a = none := n
  have nb : ∀ {b : Addr} {o : HO}, H b = some o → b ≠ a := fun {b o} z y => by rw [y, n] at z; cases z
  refine ⟨I.ok, I.os, I.bare, ⟨I.base.keep, I.base.slot, fun b o z m y => ?_, I.base.there, fun b xs z => ?_, fun b o u z => ?_, fun b ps z => ?_⟩, I.loc, I.cell, ?_, fun x c z => ?_, fun p m => ?_, fun b u z => ?_, I.len⟩
  · rw [upd_ne fun y => by rw [y, h0] at z; cases z]
    exact I.base.free b o z m y
  · have q := I.base.tups b xs z
    rw [upd_ne (nb q)]; exact q
  · have q := I.base.frzs b o u z
    rw [upd_ne (nb q)]; exact q
  · obtain ⟨m, q⟩ := I.base.tbls b ps z
    exact ⟨m, by rw [upd_ne (nb q)]; exact q⟩
  · rw [upd_ne (Ne.symm nL)]; exact I.free
  · rw [upd_ne (hcl x c z)]; exact I.freeC x c z
  · obtain ⟨q1, q2, q3⟩ := I.pin p (by
      rcases List.mem_append.mp m with z | z
      · exact List.mem_append_left _ z
      · exact List.mem_append_right _ (List.mem_cons_of_mem _ z))
    exact ⟨q1, by rw [upd_ne (hp p m)]; exact q2, q3⟩
  · by_cases y : b = a
    · subst y
      rw [upd_same] at z
      cases z
      exact ⟨⟨oe, vs, e, hz, hd⟩, ⟨oe, e⟩, fun h1 h2 ⟨o, v, q1, q2⟩ k => ⟨o, v, k _ q1, q2⟩⟩
    · rw [upd_ne y] at z
      exact (I.hok b u z).stay (fun c w _ q => q) (fun c q => by rw [upd_ne (nb q)]; exact q) fun c xs q => by rw [upd_ne (nb q)]; exact q
end
/-- what the clause wishes of an exception of the body: slot i is the clause's name -/
def wKeep (K : Fg) (c : Value) (i : Nat) (ts : Addr → Value → Option Addr → TS) (D : Ends) : WX := fun cls d σ H =>
  PySem.W.exmOne K cls c = some true ∧ ∀ a, H a = none → ts a cls d { nx := fun σ' H' => H' a = none → D.nx (σ'.set i none) (upd H' a (ExH a cls d)), rt := fun _ _ => False, bk := fun _ _ => False, ct := fun _ _ => False } (σ.set i (some (.ref a))) H
section
variable {X : Cx} {x n : Str} {c : Value} {i : Nat} {body suite : List Stmt} {b₀ : Stmt} {np pos pos' : Pos} {tb : WX → TS} {ts : Addr → Value → Option Addr → TS} {pins : List (Addr × Obj)} {σ : L2.St} {H : Hp} {s : Shared} {D : Ends}
/-- the clauses look at what the body let out -/
theorem catch_keep {u : Value} (hs : X.stack = X.env :: X.outer) (hf : X.env.frame = some X.env.locals) (hex : X.ex = []) (hN : X.N.Nodup) (hi : X.N[i]? = some n) (hln : X.env.kindOf n = some .local) (hc : Names X x c) (ok : X.Ok)
    (hsu : ∀ (a : Addr) (oe : Obj) (cls : Value) (d : Option Addr) (pn : List (Addr × Obj)), Zc cls d oe → (∃ vs, oe.data = .fields vs) → PSs (X.suite a ((a, oe) :: pn)) (b₀ :: suite) (ts a cls d))
    (xx : XE (X.tr (X.pn ++ pins) (fun _ _ => True)) (wKeep X.K c i ts D) u s) :
    wpAny (model X.prog X.w) X.A (noteFrame u X.env) (fun _ s₂ => wpAny (model X.prog X.w) X.A (setFlight u none) (fun _ s₃ => wpAny (model X.prog X.w) X.A (handleBy u X.env [.ExceptHandler (some (.Name x np)) (some n) (b₀ :: suite) pos']) (SP X pins D) X.xe s₃) X.xe s₂) X.xe s := by
  obtain ⟨a, B, sI, pins', σ', H', cls, d, rfl, J', nb, up, sky, na, os, ag, hb1, hyes⟩ := xx
  have hfr : X.A.frames = some (X.env :: X.outer) := by rw [ok.frames, hs]
  have J : Inv X pins σ' H' sI := J'.ofTry ok
  refine Sky.land Zc.steady hfr hf (by rw [← hs]; exact sky) fun h3 fl3 up3 => ?_
  have J3 : Inv X pins σ' H' { s with heap := h3 } := J.landed nb fl3.1 (up.trans up3) os ag
  obtain ⟨oe3, vs3, he3, hz3, hd3⟩ := fl3.there
  have nfr : a ∉ frs (X.env :: X.outer) := fun hm => by
    obtain ⟨_, o', e', hnf⟩ := fl3.2.2.1.mem hm
    rw [he3] at e'; cases e'
    exact hnf _ hd3
  have nI : sI.heap.get? a = none := by
    cases z : sI.heap.get? a with
    | none => rfl
    | some o =>
      have q := nb a o z (by rw [hs]; exact nfr)
      rw [fl3.2.1] at q; cases q
  have n0 : X.s_0.heap.get? a = none := by
    cases z : X.s_0.heap.get? a with
    | none => rfl
    | some o =>
      obtain ⟨o', q⟩ := J.base.there a o z (by rw [hex]; exact fun y => nomatch y)
      rw [nI] at q; cases q
  have nP : ∀ p ∈ X.pn ++ pins, p.1 ≠ a := fun p hp z => by
    have q := (J.pin p hp).1
    rw [z, nI] at q; cases q
  have nC : ∀ y c, X.env.cells.lookup y = some c → c ≠ a := fun y c e z => by
    obtain ⟨v, o, q, _⟩ := J.cell y c e
    rw [z, nI] at q; cases q
  have nL : a ≠ X.env.locals := fun z => nfr (List.mem_filterMap.mpr ⟨X.env, List.mem_cons_self, by rw [hf, z]⟩)
  have nF : a ∉ X.fs := fun hm => by
    obtain ⟨e, he, q⟩ := List.mem_filterMap.mp hm
    exact nfr (List.mem_filterMap.mpr ⟨e, List.mem_cons_of_mem _ he, q⟩)
  have S3 := J3.suite he3 hd3 na nL nF
  refine wpAny_handleBy_cons (codeAny_handlers_test ?_) (by intro q; cases q)
  have LM := PySem.W.exm_one (M := model X.prog X.w) J3.kIn (fun A Q E s k q => wpAny_typeOf_ref (k _ _ he3) (by rw [hz3.1]; exact q)) hb1
  have test : ∀ {Q : Value → Shared → Prop} {E : Value → Shared → Prop}, Q c { s with heap := h3 } → wpAny (model X.prog X.w) (X.A.mark (some (.ref a))) (eval (.Name x np) X.env) Q E { s with heap := h3 } := fun {Q E} q => by
    rcases hc with ⟨hg, hdbg, hm | ⟨hm, hv, hnn⟩⟩
    · exact ld_glob (X := X.suite a ((a, oe3) :: (X.pn ++ pins))) S3 hg hm q hdbg
    · exact ld_blt (X := X.suite a ((a, oe3) :: (X.pn ++ pins))) S3 hg hm hv q hnn hdbg
  refine test (LM.here ?_)
  refine codeAny_handlers_suite_as (HandSPX.lands_againZ fl3 fun h4 fl4 up4 => ?_)
  have J4 : Inv X pins σ' H' { s with heap := h4 } := J.landed nb fl4.1 ((up.trans up3).trans up4) os ag
  obtain ⟨oe4, vs4, he4, hz4, hd4⟩ := fl4.there
  have S4 := J4.suite he4 hd4 na nL nF
  refine store_ok (X := X.suite a ((a, oe4) :: (X.pn ++ pins))) (v := .ref a) S4 hN hi (.inl hln) rfl (fun s5 S5 => ?_) (.inr hln)
  refine wpAny_mono ((hsu a oe4 cls d (X.pn ++ pins) hz4 ⟨_, hd4⟩).run [] s5 _ H' _ S5 (hyes a na)) (fun f s6 hsp => ?_) (fun _ _ z => False.elim z)
  cases f with
  | next =>
    obtain ⟨σ6, H6, S6, q6⟩ := hsp
    have n6 : H6 a = none := (S6.pin (a, oe4) (List.mem_append_left _ List.mem_cons_self)).2.1
    exact gone_ok (unsuiteK S6 ok) hN hi hln fun s7 J7 => ⟨_, _, track J7 n0 hz4 hd4 nP nC, q6 n6⟩
  | brk => obtain ⟨_, _, _, q6⟩ := hsp; exact q6.elim
  | cont => obtain ⟨_, _, _, q6⟩ := hsp; exact q6.elim
  | ret u => obtain ⟨_, _, _, _, _, q6⟩ := hsp; exact q6.elim
/-- try: body / except x as n: suite, where the suite falls through -/
theorem ps_try_keep (hs : X.stack = X.env :: X.outer) (hf : X.env.frame = some X.env.locals) (hex : X.ex = []) (hN : X.N.Nodup) (hi : X.N[i]? = some n) (hln : X.env.kindOf n = some .local) (hc : Names X x c)
    (hb : ∀ (W : WX) (pn : List (Addr × Obj)) (xe : Value → Shared → Prop), Takes (X.tr pn xe) W → PassesOwn (model X.prog X.w) X.A X.env xe → PSs (X.tr pn xe) body (tb W))
    (hsu : ∀ (a : Addr) (oe : Obj) (cls : Value) (d : Option Addr) (pn : List (Addr × Obj)), Zc cls d oe → (∃ vs, oe.data = .fields vs) → PSs (X.suite a ((a, oe) :: pn)) (b₀ :: suite) (ts a cls d)) :
    PS X (.Try body [.ExceptHandler (some (.Name x np)) (some n) (b₀ :: suite) pos'] [] [] pos) (fun D σ H => tb (wKeep X.K c i ts D) D σ H) := by
  refine ⟨fun pins s σ H D I h => wpAny_Try_except ?_⟩
  have run := (hb (wKeep X.K c i ts D) (X.pn ++ pins) (fun e s₁ => wpAny (model X.prog X.w) X.A (noteFrame e X.env) (fun _ s₂ => wpAny (model X.prog X.w) X.A (setFlight e none) (fun _ s₃ => wpAny (model X.prog X.w) X.A (handleBy e X.env [.ExceptHandler (some (.Name x np)) (some n) (b₀ :: suite) pos']) (SP X pins D) X.xe s₃) X.xe s₂) X.xe s₁)
    (fun u s' ⟨a, B, sI, pins', σ', H', cls, d, e, J, r⟩ => catch_keep (pins := pins) hs hf hex hN hi hln hc I.ok hsu ⟨a, B, sI, [], σ', H', cls, d, e, (J.ofTry I.ok).toTry _, r⟩) PassesOwn.looking).run [] s σ H D (I.toTry _) h
  refine wpAny_mono run (fun f s1 q => ?_) fun e s1 q => q
  cases f with
  | next => exact q.elim fun _ z => z.elim fun _ z => wpAny_execs_nil ⟨_, _, z.1.ofTry I.ok, z.2⟩
  | brk => exact q.elim fun _ z => z.elim fun _ z => ⟨_, _, z.1.ofTry I.ok, z.2⟩
  | cont => exact q.elim fun _ z => z.elim fun _ z => ⟨_, _, z.1.ofTry I.ok, z.2⟩
  | ret u =>
    obtain ⟨v, σ', H', J', r, q⟩ := q
    exact ⟨v, σ', H', J'.ofTry I.ok, r, q⟩
end
/-! ### a caught exception, asked -/
/-- what an exception class must say -/
structure ExcK (K : Fg) (D : Addr) : Prop where
  cl : (PySem.W.clsIn K D).isSome = true
  hg : PySem.W.findIn K (.ref D) "__getattribute__" = some (some (.builtin "BaseException.__getattribute__"))
  hk : PySem.W.findIn K (.ref D) "__getattr__" = some none
  hs : PySem.W.subIn K (.ref D) (.type "BaseException") = some true
  hd : PySem.W.hasDictIn K D = true
  ha : PySem.W.findIn K (.ref D) "__class__" = some (some (.builtin "object.__class__"))
  hn : PySem.W.specialIn K (.builtin "object.__class__") "__get__" = some (some (.builtin "getset_descriptor.__get__"))
  ht : PySem.W.takesIn K (.builtin "object.__class__") = some true
  hm : PySem.W.mroIn K D (.type "object") = some true
def excKB (K : Fg) (D : Addr) : Bool := (PySem.W.clsIn K D).isSome && (decide (PySem.W.findIn K (.ref D) "__getattribute__" = some (some (.builtin "BaseException.__getattribute__"))) && (decide (PySem.W.findIn K (.ref D) "__getattr__" = some none) && (decide (PySem.W.subIn K (.ref D) (.type "BaseException") = some true) && (PySem.W.hasDictIn K D &&
  (decide (PySem.W.findIn K (.ref D) "__class__" = some (some (.builtin "object.__class__"))) && (decide (PySem.W.specialIn K (.builtin "object.__class__") "__get__" = some (some (.builtin "getset_descriptor.__get__"))) && (decide (PySem.W.takesIn K (.builtin "object.__class__") = some true) && decide (PySem.W.mroIn K D (.type "object") = some true))))))))
theorem excKB.ok {K : Fg} {D : Addr} (h : excKB K D = true) : ExcK K D := by
  unfold excKB at h
  simp only [Bool.and_eq_true, decide_eq_true_eq] at h
  obtain ⟨a, b, c, d, e, f, g, i, j⟩ := h
  exact ⟨a, b, c, d, e, f, g, i, j⟩
section
variable {X : Cx} {pins : List (Addr × Obj)} {σ : L2.St} {H : Hp} {s : Shared}
theorem exh_at {a D : Addr} {d : Option Addr} (I : Inv X pins σ H s) (h : H a = some (ExH a (.ref D) d)) (hd : ∀ dx, d = some dx → ∃ fs, H dx = some (.xd fs)) : ∃ ox od, PySem.W.InstAt s.heap a ox D od := by
  obtain ⟨⟨oe, vs, e, hz, hv⟩, _, _⟩ := I.hok a _ h
  have no : PySem.W.notCls oe = true := by unfold PySem.W.notCls; rw [hv]
  cases d with
  | none => exact ⟨oe, none, e, hz.1, no, by rw [hz.2]; trivial⟩
  | some dx =>
    obtain ⟨fs, hx⟩ := hd dx rfl
    have q : ObjOk X.prog X.w H s.heap dx (.xd fs) := I.hok dx _ hx
    obtain ⟨mA, ⟨o, _, _, ho, _⟩, _⟩ := q
    exact ⟨oe, some o, e, hz.1, no, by rw [hz.2]; exact ho⟩
/-- isinstance(e, C) -/
def rExI (K : Fg) : List V → Hp → VK → Prop := fun xs H Q => ∃ (a D : Addr) (d : Option Addr) (c : V) (cv : Value) (b : Bool), xs = [.ref a, c] ∧ H a = some (ExH a (.ref D) d) ∧ (∀ dx, d = some dx → ∃ fs, H dx = some (.xd fs)) ∧ ExcK K D ∧ (∀ u, RelV c u → u = cv) ∧ PySem.W.kitOne K (.ref D) cv = some b ∧ Q (.bl b) H
theorem call_exi : CallR X (.builtin "isinstance") (rExI X.K) := by
  intro pins s σ H xs us Q I r h
  obtain ⟨a, D, d, c, cv, b, rfl, ha, hd, C, hcv, e, q⟩ := h
  cases r with
  | cons rx rr =>
    cases rr with
    | cons rt rr =>
      cases rr
      obtain rfl := (show _ = Value.ref a from rx)
      obtain rfl := hcv _ rt
      obtain ⟨ox, od, J⟩ := exh_at I ha hd
      exact PySem.W.kia_one (PySem.W.kitx_exc C.cl C.hg C.hk C.hs C.ha C.hn C.ht C.hm) I.kIn J e (fun z => nomatch z) fun tk => ⟨.bl b, H, I.kept (t' := tk) fun _ _ z => z, rfl, q⟩
variable {W : WX} {ω : List Sh} {pos : Pos} {e : Expr} {m : M D}
/-- the classes cs: which is which: subs tells the classes of the program above each -/
def isE (subs : List (Str × List Str)) (C C' : Str) : Bool := C == C' || ((subs.lookup C).getD []).contains C'
def excsB (K : Fg) (cs : List Str) (subs : List (Str × List Str)) (qs : List Str) : Bool := cs.all fun c => excKB K (He.ga K c) && qs.all fun q => decide (PySem.W.kitOne K (.ref (He.ga K c)) (.ref (He.ga K q)) = some (isE subs c q))
def isiE (cs : List Str) (subs : List (Str × List Str)) (q : Str) : D → Option D
  | .exn c _ => if cs.contains c = true then some (.bl (isE subs c q)) else none
  | _ => none
theorem RD.exh {F H' : Hp} {x : V} {c : Str} {fs : List (Str × D)} (r : RD X.K F x (.exn c fs)) (l : Le F H') : ∃ a d, x = .ref a ∧ H' a = some (ExH a (.ref (He.ga X.K c)) d) ∧ ∀ dx, d = some dx → ∃ fs, H' dx = some (.xd fs) := by
  cases r with
  | exn h1 h2 _ _ => exact ⟨_, _, rfl, l _ _ h1, fun dx z => by cases z; exact ⟨_, l _ _ h2⟩⟩
  | exn0 h1 => exact ⟨_, _, rfl, l _ _ h1, fun dx z => nomatch z⟩
theorem de_isiE {cs qs : List Str} {subs : List (Str × List Str)} {q : Str} {p p2 : Pos} (hi : excsB X.K cs subs qs = true) (hq : qs.contains q = true) (hg : Gl X "isinstance") (hm : X.mg "isinstance" = none) (ha : DE X W ω e .fz m) (hC : X.mg q = some (.ref (He.ga X.K q))) (hgC : Gl X q := by rfl) (hdb : (q == ("__debug__" : Str)) = false := by decide)
    (he : starEach (e :: [.Name q p2]) X.env = (false, eval e X.env) :: starEach [.Name q p2] X.env := by rfl) (he2 : starEach [.Name q p2] X.env = (false, eval (.Name q p2) X.env) :: starEach [] X.env := by rfl) (hpl : (backTo pos (starEach [.Name q p2] X.env)).any (·.1) = false := by rfl) :
    DE X W ω (.Call (.Name "isinstance" p) [e, .Name q p2] [] pos) .fz (un1 (isiE cs subs q) m) := by
  have hy : PE X (.Name q p2) (tC (.ref (He.ga X.K q))) := pe_glob hgC hC rfl hdb
  refine PE.imp (pe_callB call_exi hg hm boot_isinstance (pa_cons ha (pa_cons hy pa_nil he2) he) (by decide) (by decide) he hpl) fun σ H Q z => ?_
  obtain ⟨F, z⟩ := tun z
  refine ⟨F, tMF_mono z fun x H1 ⟨F1, d, r, e, l, rd, k⟩ => ?_⟩
  unfold isiE at e
  split at e
  · rename_i c fs
    split at e
    · rename_i hc
      cases e
      obtain ⟨a, d, rfl, h1, h2⟩ := rd.exh l
      have hz := List.all_eq_true.mp hi c (List.contains_iff_mem.mp hc)
      obtain ⟨z1, z2⟩ := He.ba hz
      have z3 := of_decide_eq_true (List.all_eq_true.mp z2 q (List.contains_iff_mem.mp hq))
      exact ⟨a, _, d, _, .ref (He.ga X.K q), _, rfl, h1, h2, excKB.ok z1, fun u ru => ru, z3, k _ F1 H1 (Gr.refl l) (.bl _)⟩
    · cases e
  · cases e
/-- e.f -/
def gFldX (cs : List Str) (f : Str) : D → Option D
  | .exn c fs => if cs.contains c = true then fs.lookup f else none
  | _ => none
def fldXB (K : Fg) (cs : List Str) (f : Str) : Bool := cs.all fun c => excKB K (He.ga K c) && decide (PySem.W.findIn K (.ref (He.ga K c)) f = some none)
theorem de_fldX {cs : List Str} {f : Str} (hc : fldXB X.K cs f = true) (ha : DE X W ω e .fz m) (hb : attributeBase e f X.env (eval e X.env) = eval e X.env := by rfl) : DE X W ω (.Attribute e f pos) .fz (un1 (gFldX cs f) m) := by
  refine ⟨fun pins s σ H Q I h => attr_of hb ?_⟩
  obtain ⟨F, z⟩ := tun h
  refine thn (ha.run pins s σ H _ I ⟨F, z⟩) fun u s1 ⟨x, H1, I1, rx, F1, d, r, e, l, rd, k⟩ => ?_
  unfold gFldX at e
  split at e
  · rename_i c ds
    split at e
    · rename_i hm
      obtain ⟨z1, z2⟩ := He.ba (List.all_eq_true.mp hc c (List.contains_iff_mem.mp hm))
      have z2 := of_decide_eq_true z2
      have C := excKB.ok z1
      cases rd with
      | exn0 _ => cases e
      | exn h1 h2 e1 rs =>
        obtain rfl := (show u = Value.ref _ from rx)
        obtain ⟨v, ev, rv⟩ := lookup_ds e1 rs e
        obtain ⟨⟨oe, vs, ho, hz, hv⟩, _, _⟩ := I1.hok _ _ (l _ _ h1)
        have hx : ObjOk X.prog X.w H1 s1.heap _ (.xd _) := I1.hok _ _ (l _ _ h2)
        obtain ⟨mA, hns, hr⟩ := hx
        obtain ⟨od, hod, hl⟩ := lookIn_ns hns
        obtain ⟨w, hw, rw'⟩ := RelO.some_of (v := v) (o := mA f) (by rw [← ev]; exact hr f)
        have J : PySem.W.InstAt s1.heap _ oe _ (some od) := ⟨ho, hz.1, by unfold PySem.W.notCls; rw [hv] <;> rfl, by rw [hz.2]; exact hod⟩
        exact HandSPX.exc_get I1.kIn J C.hg C.hk C.hs (PySem.W.findObj_own C.hd z2 rfl (by rw [hl, hw])) (handed_of rw') ⟨v, H1, I1.tok _, rw', k v F1 H1 (Gr.refl l) rv⟩
    · cases e
  · cases e
end
@[simp] theorem s_isiE {cs : List Str} {subs : List (Str × List Str)} {q c : Str} {fs : List (Str × D)} : isiE cs subs q (.exn c fs) = if cs.contains c = true then some (.bl (isE subs c q)) else none := rfl
@[simp] theorem s_fldX {cs : List Str} {f c : Str} {fs : List (Str × D)} : gFldX cs f (.exn c fs) = if cs.contains c = true then fs.lookup f else none := rfl
end DL
/-! DL: a def that gets a function and calls it. -/
namespace DL
open PySem PySem.Spec PyProof.Rows L2
/-- the names that are frozen; the others forgotten -/
def fzB : List Sh → List Bool
  | [] => []
  | .fz :: ω => true :: fzB ω
  | _ :: ω => false :: fzB ω
def maskR : List Bool → Rho → Rho
  | true :: bs, x :: ρ => x :: maskR bs ρ
  | false :: bs, _ :: ρ => none :: maskR bs ρ
  | _, _ => []
abbrev fzR (ω : List Sh) (ρ : Rho) : Rho := maskR (fzB ω) ρ
@[simp] theorem s_mask_nil {ρ : Rho} : maskR [] ρ = [] := by cases ρ <;> rfl
@[simp] theorem s_mask_t {bs : List Bool} {x : Option D} {ρ : Rho} : maskR (true :: bs) (x :: ρ) = x :: maskR bs ρ := rfl
@[simp] theorem s_mask_f {bs : List Bool} {x : Option D} {ρ : Rho} : maskR (false :: bs) (x :: ρ) = none :: maskR bs ρ := rfl
theorem OwnL.frzR {K : Fg} {F F' H H' : Hp} (l : Le F F') : ∀ {ω : List Sh} {σ : L2.St} {ρ : Rho} {fp : List Addr}, OwnL K F H ω σ ρ fp → OwnL K F' H' (DL.fzs ω) σ (DL.fzR ω ρ) []
  | _, _, _, _, .nil => .nil
  | _, _, _, _, .un (s := s) h => by cases s <;> exact OwnL.un (OwnL.frzR l h)
  | _, _, _, _, .bd a b n => by
    cases a with
    | fz r => exact OwnL.bd (fp := []) (.fz (r.mono l)) (OwnL.frzR l b) (fun _ m => by cases m)
    | pin _ => exact .un (OwnL.frzR l b)
    | lst _ _ _ => exact .un (OwnL.frzR l b)
    | dK _ _ _ _ => exact .un (OwnL.frzR l b)
    | dT _ _ _ _ => exact .un (OwnL.frzR l b)
    | ins _ _ _ _ _ => exact .un (OwnL.frzR l b)
theorem OwnL.join {K : Fg} {F H : Hp} {ω ω' : List Sh} {σ σ' : L2.St} {ρ ρ' : Rho} (b : OwnL K F H ω' σ' ρ' []) : ∀ {ω : List Sh} {σ : L2.St} {ρ : Rho} {fp : List Addr}, OwnL K F H ω σ ρ fp → OwnL K F H (ω ++ ω') (σ ++ σ') (ρ ++ ρ') fp
  | _, _, _, _, .nil => b
  | _, _, _, _, .un h => .un (OwnL.join (σ := σ) (ρ := ρ) (ω := ω) b h)
  | _, _, _, _, .bd a h n => .bd a (OwnL.join (σ := σ) (ρ := ρ) (ω := ω) b h) n
/-- what a function that was handed over promises -/
def spA (K : Fg) (mg : Str → Option Value) (np : Nat) (F0 : Hp) (g : List D → Res D) : Sp := fun vs H Q E => vs.length = np ∧ ∃ F G ds, Le F0 F ∧ RDs K F vs ds ∧ Le F H ∧ LeG K G H ∧ Dj K F G ∧
  (g ds).sat (fun d _ => ∀ v F' H', Le F F' → Sim K [.fz] F' G H' [some d] [some v] → Q v H')
    fun e _ => ∀ F' H' cls dx, Le F F' → Le F' H' → LeG K G H' → Dj K F' G → ExIs K mg F' H' e cls dx → E cls dx H'
structure AskB (P : Program) (w : World) (K : Fg) (mg : Str → Option Value) (base : Heap) (k np : Nat) (F0 : Hp) (f : Addr) (g : List D → Res D) : Prop where
  fn : PySem.W.FnAt f base
  run : ∀ (A : Around) (outer : List Env) (s : Shared) (H : Hp) (us : List Value) (vs : List V) (Q : VK) (E : XK), Room k A → A.guards = some [] → Env0 P w K mg base A outer s H → Vals vs us → spA K mg np F0 g vs H Q E →
    codeAny (model P w) A (.call (.ref f) ⟨us, []⟩) (CR (L2.CX P w) outer P w H s Q E) s
theorem AskB.mono {P : Program} {w : World} {K : Fg} {mg : Str → Option Value} {base : Heap} {j k np : Nat} {F0 : Hp} {f : Addr} {g : List D → Res D} (a : AskB P w K mg base j np F0 f g) (h : j ≤ k) : AskB P w K mg base k np F0 f g :=
  ⟨a.fn, fun A outer s H us vs Q E hr => a.run A outer s H us vs Q E (hr.mono h)⟩
/-- the lambda's worth: ρ its maker's frozen names, zds its defaults -/
def lamG (m : M D) (ρ : Rho) (zds : List D) (ds : List D) : Res D := match m (ρ ++ (ds ++ zds).map some) with
  | .ok d _ => .ok d []
  | .exc e _ => .exc e []
  | .no => .no
theorem lamG_sat {m : M D} {ρ : Rho} {zds ds : List D} {P : D → Rho → Prop} {Z : Exn → Rho → Prop} (h : (lamG m ρ zds ds).sat P Z) : (m (ρ ++ (ds ++ zds).map some)).sat (fun d _ => P d []) fun e _ => Z e [] := by
  unfold lamG at h
  cases e : m (ρ ++ (ds ++ zds).map some) with
  | no => rw [e] at h; exact h.elim
  | ok d ρ1 => rw [e] at h; exact h
  | exc x ρ1 => rw [e] at h; exact h
theorem frames_low {h base base' : Heap} : ∀ {l : List Env}, (∀ b ∈ frs l, base'.get? b = none) → h.FunFrames base l → h.FunFrames base' l
  | [], _, _ => True.intro
  | env :: r, n, hl => by
    obtain ⟨hk, ⟨L, o, hf, hn, ho, hd⟩, hr⟩ := hl
    have hL : L ∈ frs (env :: r) := List.mem_filterMap.mpr ⟨env, List.mem_cons_self, hf⟩
    exact ⟨hk, ⟨L, o, hf, n L hL, ho, hd⟩, frames_low (fun b hb => n b (by
      obtain ⟨e, he, q⟩ := List.mem_filterMap.mp hb
      exact List.mem_filterMap.mpr ⟨e, List.mem_cons_of_mem _ he, q⟩)) hr⟩
theorem mod_up {K : Fg} {mg : Str → Option Value} {base base' : Heap} (m : Mod K mg base) (k : ∀ b o, base.get? b = some o → base'.get? b = some o) : Mod K mg base' :=
  ⟨m.kin.keeps k, m.glob.keeps k, let ⟨mb, h, h2⟩ := m.blt; ⟨mb, h.keeps k, h2⟩, m.nolimit.keeps k⟩
theorem env_low {P : Program} {w : World} {K : Fg} {mg : Str → Option Value} {base base' : Heap} {A : Around} {outer : List Env} {s : Shared} {H : Hp} (m : Mod K mg base) (k : ∀ b o, base.get? b = some o → base'.get? b = some o) (hz : base.objs.size ≤ base'.objs.size) (e : Env0 P w K mg base' A outer s H) : Env0 P w K mg base A outer s H :=
  ⟨e.frames, m, fun b o q => e.bs b o (k b o q), Nat.le_trans hz e.bsz, frames_low (fun b hb => by
    have q := (e.funs.mem hb).1
    cases z : base.get? b with
    | none => rfl
    | some o => rw [k b o z] at q; cases q) e.funs, e.frf, e.hok, e.bare⟩
open Classical in
/-- what is hidden of the heap: all but the base and what the lambda needs -/
noncomputable def hideL (base : Heap) (kp : Addr → Prop) : Hp := fun b => if (base.get? b).isSome = true ∨ kp b then none else some (.tup [])
section
variable {X : Cx} {pins : List (Addr × Obj)} {σ : L2.St} {H F G : Hp} {s : Shared} {ω : List Sh} {ρ : Rho} {scope : Scope} {ps : List Str} {params : Arguments} {body : Expr} {dV doc pm ctv : Value} {f c' : Addr} {zs : List Value} {zvs : List V} {zds : List D} {np k : Nat} {m : M D}
theorem ask_lam (I : Inv X pins σ H s) (S : Sim X.K ω F G H ρ σ) (L : LamD X.N X.env.scope scope ps) (nd : ps.Nodup) (hfn : ∀ x, X.fn x = true)
    (hf : s.heap.get? f = some (lamObj X params body scope dV doc pm c' ctv)) (hHf : H f = none) (hff : f ∉ frs X.stack) (hco : F c' = some (LamX.CodeO c' (X.env.qual ++ "<lambda>")))
    (hdf : DfO X s H dV zs) (rz : Vals zvs zs) (rzd : ∀ F, RDs X.K F zvs zds)
    (hb : ∀ (s1 : Shared) (us : List Value), us.length = np → ((dV = .none ∧ zs = []) ∨ ∃ T, zs ≠ [] ∧ dV = .ref T ∧ s1.heap.get? T = some (PySem.W.kdv_tup zs)) → BindsTo s1 (PySem.W.kdv_fn "<lambda>" (X.env.qual ++ "<lambda>") params (.expr body) scope (cloFrom X.env.cells scope.names []) dV doc pm (.ref c') ctv) ⟨us, []⟩ (ps.zip (us ++ zs)))
    (hps : np + zs.length = ps.length)
    (hbody : ∀ (A : Around) (outer : List Env) (s1 : Shared) (HZ : Hp) (E : XK), Room k (A.deeper (LamX.lamEnv X scope s1.heap.objs.size f c')) → A.guards = some [] → DE (lamC X A outer s1 HZ E scope f c' ps) (fun cls d _ H => E cls d H) (fzs ω ++ List.replicate ps.length .fz) body .fz m) :
    ∃ base' : Heap, (∀ b o, X.base.get? b = some o → base'.get? b = some o) ∧ Env0 X.prog X.w X.K X.mg base' X.A X.stack s H ∧ AskB X.prog X.w X.K X.mg base' (k + 1) np F f (lamG m (fzR ω ρ) zds) := by
  obtain ⟨kp, hkp⟩ : ∃ kp : Addr → Prop, ∀ b, kp b ↔ b = f ∨ dV = .ref b ∨ ∃ y, X.env.cells.lookup y = some b := ⟨_, fun b => Iff.rfl⟩
  obtain ⟨base', hbase⟩ : ∃ b : Heap, b = hidT s.heap (hideL X.base kp) := ⟨_, rfl⟩
  have out : ∀ b o, s.heap.get? b = some o → ((X.base.get? b).isSome = true ∨ kp b) → base'.get? b = some o := fun b o e h => by
    rw [hbase]
    exact hidT_get e (by unfold hideL; exact if_pos h)
  have inn : ∀ b o, base'.get? b = some o → s.heap.get? b = some o ∧ ((X.base.get? b).isSome = true ∨ kp b) := fun b o e => by
    rw [hbase] at e
    obtain ⟨h1, h2⟩ := of_hidT e
    refine ⟨h1, ?_⟩
    by_cases z : (X.base.get? b).isSome = true ∨ kp b
    · exact z
    · unfold hideL at h2
      rw [if_neg z] at h2
      cases h2
  have sub : ∀ b o, X.base.get? b = some o → base'.get? b = some o := fun b o e => out b o (I.bk b o e) (.inl (by rw [e]; rfl))
  have bs : ∀ b o, base'.get? b = some o → s.heap.get? b = some o ∧ H b = none := fun b o e => by
    obtain ⟨h1, h2⟩ := inn b o e
    refine ⟨h1, ?_⟩
    rcases h2 with h2 | h2
    · obtain ⟨o', q⟩ := Option.isSome_iff_exists.mp h2
      exact (I.bs b o' q).2
    · rcases (hkp b).mp h2 with rfl | z | ⟨y, z⟩
      · exact hHf
      · rcases hdf with ⟨q, _⟩ | ⟨T, _, q, _, q2, _⟩
        · rw [z] at q; cases q
        · rw [z] at q; cases q; exact q2
      · exact I.freeC y b z
  have nofr : ∀ b ∈ frs X.stack, base'.get? b = none := fun b hb => by
    cases e : base'.get? b with
    | none => rfl
    | some o =>
      obtain ⟨h1, h2⟩ := inn b o e
      rcases h2 with h2 | h2
      · rw [(I.stack.mem hb).1] at h2; cases h2
      · rcases (hkp b).mp h2 with rfl | z | ⟨y, z⟩
        · exact absurd hb hff
        · rcases hdf with ⟨q, _⟩ | ⟨T, _, q, _, _, q2⟩
          · rw [z] at q; cases q
          · rw [z] at q; cases q; exact absurd hb q2
        · rcases List.mem_cons.mp (I.stkSub b hb) with z2 | z2
          · exact absurd z2 (I.cne y b z)
          · obtain ⟨_, o', ho, _⟩ := I.ok.funs.mem z2
            exact absurd (Heap.lt_size ho) (Nat.not_lt.mpr (I.ok.cab y b (hfn y) z))
  have hz : base'.objs.size = s.heap.objs.size := by rw [hbase]; exact hidT_size _ _
  have en : Env0 X.prog X.w X.K X.mg base' X.A X.stack s H := ⟨I.ok.frames, mod_up I.mod sub, bs, Nat.le_of_eq hz, frames_low nofr I.stack, I.stkFree, I.hok, I.bare⟩
  have bf : base'.get? f = some (lamObj X params body scope dV doc pm c' ctv) := out f _ hf (.inr ((hkp f).mpr (.inl rfl)))
  refine ⟨base', sub, en, ⟨⟨_, _, _, _, bf⟩, fun A outer s1 HZ us vs Q E hr gd e1 rv ⟨hl, F1, G1, ds, l0, r, fH, gH, dj, q⟩ => ?_⟩⟩
  have e0 : Env0 X.prog X.w X.K X.mg X.base A outer s1 HZ := env_low I.mod sub (by rw [hz]; exact Nat.le_trans I.ok.bsz I.sz) e1
  have lz : zvs.length = zs.length := rz.length
  have lu : us.length = np := by rw [← rv.length]; exact hl
  refine lam_run (us := us ++ zs) (vs := vs ++ zvs) (tb := tM X.K X.mg (fun cls d _ H => E cls d H) (fzs ω ++ List.replicate ps.length Sh.fz) Sh.fz m) I L nd (e1.bs f _ bf).1 (fun y c z => ?_) e0 hr (fH _ _ (l0 _ _ hco)) (hb s1 us lu ?_) (rv.append rz) (by rw [List.length_append, lu, hps]) (fun hr' => hbody A outer s1 HZ E hr' gd) ?_
  · obtain ⟨v, o, ho, hd⟩ := I.cell y c z
    have q := out c o ho (.inr ((hkp c).mpr (.inr (.inr ⟨y, z⟩))))
    refine ⟨(e1.bs c o q).2, fun o' ho' => ?_⟩
    rw [ho] at ho'; cases ho'
    exact (e1.bs c o q).1
  · rcases hdf with z | ⟨T, z0, z1, z2, _, _⟩
    · exact .inl z
    · exact .inr ⟨T, z0, z1, (e1.bs T _ (out T _ z2 (.inr ((hkp T).mpr (.inr (.inl z1)))))).1⟩
  · obtain ⟨⟨fp, o, _⟩, _, _, _⟩ := S
    have rr := r.append (rzd F1)
    have hlen : (ds ++ zds).length = ps.length := by
      rw [← rr.length, List.length_append, hl, lz, hps]
    have o2 := OwnL.rds (H := HZ) rr
    rw [hlen] at o2
    have o3 := OwnL.join (σ := σ) (ρ := ρ) (ω := ω) o2 (o.frzR (H' := HZ) l0)
    rw [List.map_append]
    rw [List.map_append] at o3
    refine ⟨F1, G1, _, ⟨⟨[], o3, fun _ z => by cases z⟩, fH, gH, dj⟩, ?_⟩
    rw [← List.map_append]
    refine Res.sat_mono (lamG_sat q) (fun d ρ' z v F' H' l' S' => ?_) fun e ρ' z F' H' cls dx l' S' x => z F' H' cls dx l' S'.fH S'.gH S'.dj x
    obtain ⟨rd, S2⟩ := S'.top
    exact z v F' H' l' ⟨⟨[] ++ [], .bd (.fz rd) .nil (fun _ m => by cases m), fun _ m => by cases m⟩, S2.fH, S2.gH, S2.dj⟩
end
end DL
namespace DL
open PySem PySem.Spec PyProof.Rows L2
/-! ### the def that is handed the function -/
/-- the answers of r, whatever the function handed over -/
noncomputable def allR (r : Addr → Hp → Res D) : Res D := by
  classical exact if h : ∃ d, ∀ a F, ∃ ρ, r a F = .ok d ρ then .ok h.choose [] else if h : ∃ e, ∀ a F, ∃ ρ, r a F = .exc e ρ then .exc h.choose [] else .no
theorem allR_ok {r : Addr → Hp → Res D} {d : D} (h : ∀ a F, ∃ ρ, r a F = .ok d ρ) : allR r = .ok d [] := by
  have z : ∃ d, ∀ a F, ∃ ρ, r a F = .ok d ρ := ⟨d, h⟩
  unfold allR
  rw [dif_pos z]
  obtain ⟨ρ1, e1⟩ := z.choose_spec 0 fun _ => none
  obtain ⟨ρ2, e2⟩ := h 0 fun _ => none
  rw [e1] at e2
  injection e2 with e3
  rw [e3]
theorem allR_exc {r : Addr → Hp → Res D} {e : Exn} (h : ∀ a F, ∃ ρ, r a F = .exc e ρ) : allR r = .exc e [] := by
  have n : ¬ ∃ d, ∀ a F, ∃ ρ, r a F = .ok d ρ := fun ⟨d, q⟩ => by
    obtain ⟨ρ1, e1⟩ := q 0 fun _ => none
    obtain ⟨ρ2, e2⟩ := h 0 fun _ => none
    rw [e1] at e2; cases e2
  have z : ∃ e, ∀ a F, ∃ ρ, r a F = .exc e ρ := ⟨e, h⟩
  unfold allR
  rw [dif_neg n, dif_pos z]
  obtain ⟨ρ1, e1⟩ := z.choose_spec 0 fun _ => none
  obtain ⟨ρ2, e2⟩ := h 0 fun _ => none
  rw [e1] at e2
  injection e2 with e3
  rw [e3]
theorem allR_sat {r : Addr → Hp → Res D} {P : D → Rho → Prop} {Z : Exn → Rho → Prop} (h : (allR r).sat P Z) (a : Addr) (F : Hp) : (r a F).sat (fun d _ => P d []) fun e _ => Z e [] := by
  by_cases z : ∃ d, ∀ a F, ∃ ρ, r a F = .ok d ρ
  · obtain ⟨d, z⟩ := z
    rw [allR_ok z] at h
    obtain ⟨ρ, e⟩ := z a F
    rw [e]; exact h
  · by_cases z2 : ∃ e, ∀ a F, ∃ ρ, r a F = .exc e ρ
    · obtain ⟨e, z2⟩ := z2
      rw [allR_exc z2] at h
      obtain ⟨ρ, e⟩ := z2 a F
      rw [e]; exact h
    · unfold allR at h
      rw [dif_neg z, dif_neg z2] at h
      exact h.elim
/-- a def's promise, its first argument a function: npL what that takes, ka its depth -/
def spH (P : Program) (w : World) (K : Fg) (mg : Str → Option Value) (base : Heap) (ka npL np : Nat) (rs : Sh) (bb : Addr → Hp → (List D → Res D) → List D → Res D) : Sp := fun vs H Q E => vs.length = np + 1 ∧ ∃ fa F0 g vs', vs = .ref fa :: vs' ∧ AskB P w K mg base ka npL F0 fa g ∧
  ∃ F G ds, Le F0 F ∧ RDs K F vs' ds ∧ Le F H ∧ LeG K G H ∧ Dj K F G ∧
  (bb fa F0 g (.fn fa F0 :: ds)).sat (fun d _ => ∀ v F' H', Le F F' → Sim K [rs] F' G H' [some d] [some v] → Q v H')
    fun e _ => ∀ F' H' cls dx, Le F F' → Le F' H' → LeG K G H' → Dj K F' G → ExIs K mg F' H' e cls dx → E cls dx H'
section
variable {P : Program} {w : World} {K : Fg} {mg : Str → Option Value} {base : Heap} {k ka npL : Nat} {f : Addr} {N ps : List Str} {x qual : Str} {params : Arguments} {body : List Stmt} {scope : Scope} {dvs : List V} {kws : List (Str × V)} {fd : FuncData}
theorem fnHD {rs : Sh} {ω' : List Sh} {b : Addr → Hp → (List D → Res D) → M Fl} {p0 : Str} (thru : Bool) (Fn : FunD K x qual params body scope dvs kws f fd) (S : FnScope N (p0 :: ps) scope)
    (hb : ∀ (cdv : Value) (A : Around) (outer : List Env) (s : Shared) (H : Hp) (E : XK) (fa : Addr) (F0 : Hp) (g : List D → Res D), Room k (A.deeper (envOfC qual scope s.heap.objs.size f cdv)) → A.guards = some [] → cdOf K f = some cdv → AskB P w K mg base ka npL F0 fa g →
      DSs (cxOf (L2.CX P w) P w K mg base N qual scope f cdv A outer s H E) (sxF N rs E) (List.replicate N.length .fz) body ω' (b fa F0 g))
    (hn : ps.length + 1 ≤ N.length := by decide) (hrs : thru = true → rs = .fz := by first | exact fun _ => rfl | exact fun z => nomatch z) :
    FnG P w K mg base (k + 1) f fd (p0 :: ps) (spH P w K mg base ka npL ps.length rs fun fa F0 g => runB N.length [] thru (b fa F0 g)) := by
  refine fnGD Fn S (fun vs H Q E h => h.1) fun cdv A outer s H vs Q E room gd hcd ⟨hl, fa, F0, g, vs', ev, ask, F, G, ds', l0, r', fH, gH, dj, q⟩ => ⟨_, hb cdv A outer s H E fa F0 g room gd hcd ask, ?_⟩
  have r : RDs K F vs (.fn fa F0 :: ds') := by rw [ev]; exact .cons (.fn l0) r'
  have hds : (D.fn fa F0 :: ds').length = (p0 :: ps).length := by rw [← r.length]; exact hl
  have hn : (p0 :: ps).length ≤ N.length := hn
  obtain ⟨ds, eds⟩ : ∃ ds, ds = D.fn fa F0 :: ds' := ⟨_, rfl⟩
  rw [← eds] at q r hds
  refine ⟨F, G, ds.map some ++ List.replicate (N.length - ds.length) none, ⟨⟨[], ?_, fun _ m => by cases m⟩, fH, gH, dj⟩, ?_⟩
  · have o := (OwnL.rds (H := H) r).app (N.length - ds.length)
    rw [List.replicate_append_replicate, show ds.length + (N.length - ds.length) = N.length by omega] at o
    unfold L2.start
    rw [r.length]
    exact o
  · refine Res.sat_mono (runB_sat q) (fun fl ρ' z => ?_) fun e ρ' z => ?_
    · cases fl with
      | rt d => exact z
      | nx =>
        obtain ⟨ht, z⟩ := z
        cases hrs ht
        exact fun σ' F' H' l S' => z .non F' H' l (Sim.push ⟨⟨[], .nil, fun _ m => by cases m⟩, S'.fH, S'.gH, S'.dj⟩ .non)
      | bk => exact z.elim
      | ct => exact z.elim
    · exact fun σ' F' H' cls dx l S' x => z F' H' cls dx l S'.fH S'.gH S'.dj x
end
/-! ### the function that was handed over, called -/
noncomputable def chkFn (j : Nat) (fa : Addr) (F0 : Hp) : M Unit := fun ρ => by
  classical exact if ρ[j]? = some (some (.fn fa F0)) then .ok () ρ else .no
noncomputable def askM (j : Nat) (fa : Addr) (F0 : Hp) (np : Nat) (g : List D → Res D) (ms : M (List D)) : M D := bindM (chkFn j fa F0) fun _ => bindM ms fun ds => if ds.length = np then ofRes (g ds) else failM
@[simp] theorem s_chkFn {j : Nat} {fa : Addr} {F0 : Hp} {ρ : Rho} (h : ρ[j]? = some (some (.fn fa F0))) : chkFn j fa F0 ρ = .ok () ρ := by
  unfold chkFn; exact if_pos h
section
variable {X : Cx} {W : WX} {ω : List Sh} {k ka np npL : Nat} {a x : Str} {p pos : Pos} {e : Expr} {es : List Expr} {ms : M (List D)} {fa : Addr} {F0 : Hp} {g : List D → Res D} {j : Nat}
theorem ask_pre {σ : L2.St} {H : Hp} {Q : VK} (h1 : ω[j]? = some .fz) (h : tM X.K X.mg W ω .fz (askM j fa F0 np g ms) σ H Q) :
    σ[j]? = some (some (.ref fa)) ∧ tA X.K X.mg W ω ms σ H fun vs H1 => spA X.K X.mg np F0 g vs H1 Q fun cls d H => W cls d σ H := by
  obtain ⟨F, G, ρ, S, h⟩ := h
  have h := Res.sat_bind h
  by_cases hj : ρ[j]? = some (some (.fn fa F0))
  · rw [s_chkFn hj] at h
    obtain ⟨v, ev, rv⟩ := S.get h1 hj
    cases rv with
    | fn l0 =>
      refine ⟨ev, F, G, ρ, S, ?_⟩
      have h : (bindM ms (fun ds => if ds.length = np then ofRes (g ds) else failM) ρ).sat _ _ := h
      have h := Res.sat_bind h
      cases em : ms ρ with
      | no => rw [em] at h; exact h
      | exc e ρ1 => rw [em] at h; exact h
      | ok ds ρ1 =>
        rw [em] at h
        refine fun vs F1 H1 l S1 rr => ?_
        obtain ⟨G', gH, dj, back⟩ := S1.aside
        have h : ((if ds.length = np then ofRes (g ds) else failM : M D) ρ1).sat _ _ := h
        by_cases hnp : ds.length = np
        rotate_left
        · rw [if_neg hnp] at h; exact h.elim
        rw [if_pos hnp] at h
        refine ⟨by rw [rr.length]; exact hnp, F1, G', ds, l0.trans l, rr, S1.fH, gH, dj, ?_⟩
        unfold ofRes at h
        cases eg : g ds with
        | no => rw [eg] at h; exact h
        | ok d ρ2 => rw [eg] at h; exact fun v F' H' l' S' => h v F' H' (l.trans l') (back l' S')
        | exc e ρ2 => rw [eg] at h; exact fun F' H' cls dx l' fH' gH' dj' xx => h F' H' cls dx (l.trans l') (back (ω' := []) (ρ' := []) (σ' := []) l' ⟨⟨[], .nil, fun _ m => by cases m⟩, fH', gH', dj'⟩) xx
  · have h : (chkFn j fa F0 ρ).sat _ _ := h
    unfold chkFn at h
    rw [if_neg hj] at h
    exact h.elim
theorem run_a {pins : List (Addr × Obj)} {σ : L2.St} {H : Hp} {s : Shared} {Q : VK} {us : List Value} {vs : List V} (ask : AskB X.prog X.w X.K X.mg X.base ka np F0 fa g) (hr : Room ka X.A) (gd : X.A.guards = some []) (hx : Lets X W)
    (I : Inv X pins σ H s) (r : Vals vs us) (h : spA X.K X.mg np F0 g vs H Q fun cls d H => W cls d σ H) : wpAny (model X.prog X.w) X.A (call (.ref fa) us) (EP X pins σ Q) X.xe s :=
  wpAny_call (codeAny_mono (ask.run X.A X.stack s H us vs Q _ hr gd I.env0 r h) fun r s' hq => by
    cases r with
    | error e => exact hx σ pins H s e s' I hq
    | ok fl => cases fl <;> first | exact I.after hq | exact False.elim hq)
theorem fnAt_up {h h' : Heap} {q : Addr} (k : ∀ b o, h.get? b = some o → h'.get? b = some o) : PySem.W.FnAt q h → PySem.W.FnAt q h' := fun ⟨oc, od, fd, sl, e⟩ => ⟨oc, od, fd, sl, k _ _ e⟩
/-- a(e, ..), a the name of what was handed over -/
theorem de_ask (ask : AskB X.prog X.w X.K X.mg X.base ka np F0 fa g) (hr : Room ka X.A) (gd : X.A.guards = some []) (h1 : ω[j]? = some .fz) (hx : Lets X W) (hv : PE X (.Name a p) (tVar j)) (ha : DA X W ω (e :: es) ms)
    (he : starEach (e :: es) X.env = (false, eval e X.env) :: starEach es X.env := by rfl) (hpl : (backTo pos (starEach es X.env)).any (·.1) = false := by rfl) :
    DE X W ω (.Call (.Name a p) (e :: es) [] pos) .fz (askM j fa F0 np g ms) := by
  refine ⟨fun pins s σ H Q I h => ?_⟩
  obtain ⟨hs, h⟩ := ask_pre h1 h
  refine wpAny_Call_Name_kw (thn (hv.run pins s σ H (fun v H1 => v = .ref fa ∧ H1 = H) I ⟨.ref fa, hs, rfl, rfl⟩) fun u s1 ⟨v, H1, I1, r1, ev, eH⟩ => ?_)
  subst ev; subst eH
  obtain rfl : u = Value.ref fa := r1
  refine PySem.W.callWith_F (fnAt_up I1.bk ask.fn) (thn (ha.run pos pins s1 σ H1 _ I1 h) fun us s2 ⟨vs, H2, I2, r, q⟩ => ⟨fnAt_up I2.bk ask.fn, ?_⟩) he hpl
  exact run_a ask hr gd hx I2 r q
/-- a() -/
theorem de_ask0 (ask : AskB X.prog X.w X.K X.mg X.base ka 0 F0 fa g) (hr : Room ka X.A) (gd : X.A.guards = some []) (h1 : ω[j]? = some .fz) (hx : Lets X W) (hv : PE X (.Name a p) (tVar j)) :
    DE X W ω (.Call (.Name a p) [] [] pos) .fz (askM j fa F0 0 g nilM) := by
  refine ⟨fun pins s σ H Q I h => ?_⟩
  obtain ⟨hs, h⟩ := ask_pre h1 h
  refine wpAny_Call_Name_kw (thn (hv.run pins s σ H (fun v H1 => v = .ref fa ∧ H1 = H) I ⟨.ref fa, hs, rfl, rfl⟩) fun u s1 ⟨v, H1, I1, r1, ev, eH⟩ => ?_)
  subst ev; subst eH
  obtain rfl : u = Value.ref fa := r1
  refine PySem.W.callWith_F0 (fnAt_up I1.bk ask.fn) (run_a ask hr gd hx I1 .nil ?_)
  obtain ⟨F, G, ρ, S, q⟩ := h
  exact q [] F H1 (Le.refl _) S .nil
end
end DL
/-! DL: a lambda handed to a def. -/
namespace DL
open PySem PySem.Spec PyProof.Rows L2
/-! ### the maker's table -/
/-- the def's code object cd and its table; q: the name that its lambdas bear -/
def LamK (K : Fg) (q : Str) (cd : Value) : Prop := ∃ c P, cd = .ref c ∧ (P, q ++ "<lambda>") ∈ tabsOf K ∧ (∀ p ∈ tabsOf K, p.1 = P → p.2 = q ++ "<lambda>") ∧ PySem.W.codeHdIn K c P = true
def lamB (K : Fg) (f : Addr) : Bool := match K.lookup f with
  | some o => (match tabE K o with
    | some p => (tabsOf K).all fun q => !(q.1 == p.1) || q.2 == p.2
    | none => false)
  | none => false
theorem mem_lk {α β : Type} [BEq α] [LawfulBEq α] : ∀ {l : List (α × β)} {a : α} {b : β}, l.lookup a = some b → (a, b) ∈ l
  | (x, y) :: l, a, b, h => by
    rw [List.lookup_cons] at h
    cases e : a == x with
    | true =>
      rw [e] at h
      cases h
      rw [eq_of_beq e]; exact List.mem_cons_self
    | false => rw [e] at h; exact List.mem_cons_of_mem _ (mem_lk h)
theorem lamK_of {K : Fg} {x qual : Str} {params : Arguments} {body : List Stmt} {scope : Scope} {dvs : List V} {kws : List (Str × V)} {f : Addr} {fd : FuncData} {cdv : Value} (F : FunD K x qual params body scope dvs kws f fd) (hcd : cdOf K f = some cdv) (h : lamB K f = true) :
    LamK K (qual ++ ".<locals>.") cdv := by
  obtain ⟨oc, od, dV, kV, doc, pm, an, cdv', ct, osl, rfl, lk, _, _, _⟩ := F.ex
  unfold cdOf at hcd
  rw [lk] at hcd
  cases hcd
  unfold lamB at h
  rw [lk] at h
  dsimp only at h
  split at h
  · rename_i p hp
    have hp0 := hp
    unfold tabE at hp
    dsimp only at hp
    split at hp
    · rename_i c hc
      split at hp
      · rename_i z
        cases hp
        refine ⟨c, _, rfl, List.mem_filterMap.mpr ⟨(f, _), mem_lk lk, hp0⟩, fun p hp e => ?_, z.1⟩
        have q := List.all_eq_true.mp h p hp
        rw [Bool.or_eq_true] at q
        rcases q with q | q
        · rw [e] at q; simp at q
        · exact eq_of_beq q
      · cases hp
    · cases hp
  · cases h
theorem Sim.lam {K : Fg} {ω : List Sh} {F G H H1 : Hp} {ρ : Rho} {σ : L2.St} {P : Addr} {q : Str} (S : Sim K ω F G H ρ σ) (hm : (P, q) ∈ tabsOf K) (k : ∀ b o, b ≠ P → H b = some o → H1 b = some o) (T : LamX.Tabs (tabsOf K) H1) : Sim K ω F G H1 ρ σ := by
  obtain ⟨⟨fp, o, n⟩, l, g, dj⟩ := S
  obtain ⟨ps, hP, _⟩ := dj.tabs g _ hm
  have hP : H P = some (.tbl ps) := hP
  obtain ⟨ps', gP⟩ := dj.2.2 _ hm
  have gP : G P = some (.tbl ps') := gP
  refine ⟨⟨fp, o.mono (Le.refl _) fun a m u e => k a u (fun z => ?_) e, n⟩, fun a u e => k a u (fun z => ?_) (l a u e), fun a u e => ?_, dj⟩
  · obtain ⟨u', e', mu⟩ := o.mu a m
    rw [z, hP] at e'; cases e'; exact mu
  · have q := dj.1 P (by rw [gP]; exact fun z => nomatch z)
    rw [z, q] at e; cases e
  · have w := g a u e
    cases u with
    | tbl ps2 =>
      obtain ⟨q', m', _⟩ := w
      exact ⟨q', m', fun q2 m2 => T (a, q2) m2⟩
    | _ =>
      have w : H a = some _ := w
      exact k a _ (fun z => by rw [z, hP] at w; cases w) w
/-- lambda: .. handed to a def with the worth bb -/
noncomputable def callHM (np : Nat) (bb : Addr → Hp → (List D → Res D) → List D → Res D) (lam : Rho → List D → Res D) (ms : M (List D)) : M D := bindM ms fun ds ρ => if ds.length = np then ofRes (allR fun a F0 => bb a F0 (lam ρ) (.fn a F0 :: ds)) ρ else .no
/-- a def that takes a function first -/
structure GotH (P : Program) (w : World) (K : Fg) (mg : Str → Option Value) (k : Nat) (fd : FuncData) (x : Str) (ps : List Str) (ka npL np : Nat) (rs : Sh) (bb : Addr → Hp → (List D → Res D) → List D → Res D) : Prop where
  fn : ∀ base : Heap, K.In base → base.Ns mainGlobals mg → BmOk K mg base → FnG P w K mg base k (He.ga K x) fd ps (spH P w K mg base ka npL np rs bb)
  bd : Binds K fd ps []
  mg : mg x = some (.ref (He.ga K x))
  kp : PySem.W.keepIn K (.ref (He.ga K x)) = true
theorem codeO_nm {c : Addr} {q : Str} : ¬ Mut (LamX.CodeO c q) := fun z => z
theorem codeO_nt {c : Addr} {q : Str} : ∀ ps, LamX.CodeO c q ≠ .tbl ps := fun ps => LamX.codeO_ne ps
/-- how the lambda's arguments are bound: zs its defaults -/
def LamBd (params : Arguments) (body : Expr) (scope : Scope) (ps : List Str) (np nz : Nat) : Prop := ∀ (q : Str) (cl : List (Str × Addr)) (dV doc pm cv ctv : Value) (zs : List Value) (s1 : Shared) (us : List Value), us.length = np → zs.length = nz →
  ((dV = .none ∧ zs = []) ∨ ∃ T, zs ≠ [] ∧ dV = .ref T ∧ s1.heap.get? T = some (PySem.W.kdv_tup zs)) → BindsTo s1 (PySem.W.kdv_fn "<lambda>" q params (.expr body) scope cl dV doc pm cv ctv) ⟨us, []⟩ (ps.zip (us ++ zs))
theorem lamBd_0 {params : Arguments} {body : Expr} {scope : Scope} {ps : List Str} {np : Nat} (h : ∀ (q : Str) (cl : List (Str × Addr)) (doc pm cv ctv : Value) (us : List Value), us.length = np → bindArgs (PySem.W.kdv_fn "<lambda>" q params (.expr body) scope cl .none doc pm cv ctv) ⟨us, []⟩ = pure (ps.zip us)) :
    LamBd params body scope ps np 0 := fun q cl dV doc pm cv ctv zs s1 us hu hz hd => by
  obtain rfl : zs = [] := List.length_eq_zero_iff.mp hz
  rw [List.append_nil]
  rcases hd with ⟨rfl, _⟩ | ⟨T, e, _⟩
  · exact .of_eq (h q cl doc pm cv ctv us hu)
  · exact absurd rfl e
theorem lamBd_d {params : Arguments} {body : Expr} {scope : Scope} {ps : List Str} {np nz : Nat} (hz0 : nz ≠ 0) (h : ∀ (q : Str) (cl : List (Str × Addr)) (T : Addr) (doc pm cv ctv : Value) (zs us : List Value), us.length = np → zs.length = nz →
      ∃ k : Option (Array Value) → Sem (List (Str × Value)), bindArgs (PySem.W.kdv_fn "<lambda>" q params (.expr body) scope cl (.ref T) doc pm cv ctv) ⟨us, []⟩ = (seqItems? (.ref T) >>= k) ∧ k (some zs.toArray) = pure (ps.zip (us ++ zs))) :
    LamBd params body scope ps np nz := fun q cl dV doc pm cv ctv zs s1 us hu hz hd => by
  rcases hd with ⟨_, rfl⟩ | ⟨T, e, rfl, ho⟩
  · exact absurd hz.symm hz0
  · obtain ⟨k, h1, h2⟩ := h q cl T doc pm cv ctv zs us hu hz
    exact .of_defaults (T := T) (o := PySem.W.kdv_tup zs) (items := zs.toArray) rfl ho rfl h1 h2
def zeroE : Expr → Bool
  | .Constant (.int 0) _ _ => true
  | _ => false
theorem constInts : ∀ {es : List Expr} {n : Nat}, es.all zeroE = true → es.length = n → ∀ zs, ConstVals es zs → Vals (List.replicate n (V.int 0)) zs
  | [], n, _, hl, [], _ => by obtain rfl := hl; exact .nil
  | [], n, _, hl, z :: zs, h => h.elim
  | e :: es, n, h, hl, [], hc => hc.elim
  | e :: es, n, h, hl, z :: zs, hc => by
    obtain rfl := hl
    rw [List.all_cons, Bool.and_eq_true] at h
    refine .cons ?_ (constInts h.2 rfl zs hc.2)
    have h1 := h.1
    have c1 := hc.1
    unfold zeroE at h1
    split at h1
    · exact c1
    · cases h1
section
variable {X : Cx} {W : WX} {ω : List Sh} {k kb ka np npL : Nat} {x : Str} {fd : FuncData} {ps0 ps : List Str} {rs : Sh} {bb : Addr → Hp → (List D → Res D) → List D → Res D} {p pos lpos : Pos} {es : List Expr} {ms : M (List D)} {params : Arguments} {body : Expr} {scope : Scope} {zvs : List V} {zds : List D} {m : M D}
/-- f(lambda ..: body, e, ..) -/
theorem de_callH (Fn : GotH X.prog X.w X.K X.mg k fd x ps0 (kb + 1) npL np rs bb) (bm : BmOk X.K X.mg X.base) (hr : Room k X.A) (gd : X.A.guards = some []) (hx : Lets X W) (lk : LamK X.K X.env.qual X.env.code) (L : LamD X.N X.env.scope scope ps) (nd : ps.Nodup) (hfn : ∀ x, X.fn x = true)
    (hbd : LamBd params body scope ps npL zds.length) (hps : npL + zds.length = ps.length) (hzv : ∀ zs, ConstVals params.defaults zs → Vals zvs zs) (rzd : ∀ F, RDs X.K F zvs zds) (hdef : defaultsOf params X.env = (evalEach params.defaults X.env, [])) (hds : ∀ e ∈ params.defaults, e.isPlainConst = true)
    (hbody : ∀ (A : Around) (outer : List Env) (s1 : Shared) (HZ : Hp) (E : XK) (f c' : Addr), Room kb (A.deeper (LamX.lamEnv X scope s1.heap.objs.size f c')) → A.guards = some [] → DE (lamC X A outer s1 HZ E scope f c' ps) (fun cls d _ H => E cls d H) (fzs ω ++ List.replicate ps.length .fz) body .fz m)
    {bs : List Bool} (ha : DA X W ω es ms) (hbs : fzB ω = bs := by rfl) (hg : Gl X x := by rfl) (hps0 : np + 1 = ps0.length := by rfl) (hdb : (x == ("__debug__" : Str)) = false := by decide)
    (hst : starEach (.Lambda params body scope lpos :: es) X.env = (false, eval (.Lambda params body scope lpos) X.env) :: starEach es X.env := by rfl) (hpl : (backTo pos (starEach es X.env)).any (·.1) = false := by rfl) :
    DE X W ω (.Call (.Name x p) (.Lambda params body scope lpos :: es) [] pos) rs (callHM np bb (fun ρ => lamG m (maskR bs ρ) zds) ms) := by
  subst hbs
  refine ⟨fun pins s σ H Q I ⟨F, G, ρ, S, q⟩ => ?_⟩
  obtain ⟨c, P, hcode, hmem, huniq, hcd⟩ := lk
  refine wpAny_Call_Name_kw (ld_glob I hg Fn.mg ?_ hdb)
  refine PySem.W.callWith_K (h₀ := X.base) I.ok.mod.kin Fn.kp ?_ hst hpl
  rw [hst]
  show wpAny _ _ (spliced ((false, eval (.Lambda params body scope lpos) X.env) :: backTo pos (starEach es X.env))) _ _ s
  refine Calls.spliced_cons (lam_make L I ⟨PySem.W.codeHd_of_K I.ok.mod.kin hcd, (bm _ hmem).1, (bm _ hmem).2⟩ hcode hmem huniq (S.dj.tabs S.gH) hdef hds fun zs f H1 s' hz I1 keep hP1 new T1 hat => ?_)
  obtain ⟨c', pm, doc, ctv, dV, hobj, hHf, hff, hco, hdf⟩ := hat
  have rz := hzv zs hz
  have S1 := S.lam hmem keep T1
  obtain ⟨F1, l1, fco, S1⟩ := S1.freezeO hco codeO_nm codeO_nt
  have nfr : ∀ {b : Addr}, b ∉ frs X.stack → b ∉ X.fs := fun {b} h z => h (by
    rcases I.ok.stk with e | ⟨e, _⟩
    · rw [e]; exact z
    · rw [e]
      obtain ⟨en, he, q⟩ := List.mem_filterMap.mp z
      exact List.mem_filterMap.mpr ⟨en, List.mem_cons_of_mem _ he, q⟩)
  have nloc : ∀ {b : Addr} {o : Obj}, s'.heap.get? b = some o → (∀ es ep, o.data ≠ .dict es ep) → b ≠ X.env.locals := fun {b o} e n z => by
    obtain ⟨mm, ⟨o', es', ep, ho', hd', _⟩, _⟩ := I1.loc
    rw [z, ho'] at e; cases e
    exact n _ _ hd'
  obtain ⟨tp, htp0, htp⟩ : ∃ tp : List (Addr × Obj), (zs = [] → tp = []) ∧ ∀ T, zs ≠ [] → dV = .ref T → tp = [(T, PySem.W.kdv_tup zs)] := by
    rcases hdf with ⟨_, e⟩ | ⟨T, hne, e, _⟩
    · exact ⟨[], fun _ => rfl, fun T z => absurd e z⟩
    · exact ⟨[(T, PySem.W.kdv_tup zs)], fun z => absurd z hne, fun T' _ e' => by rw [e] at e'; cases e'; rfl⟩
  have I2 : Inv X ((f, lamObj X params body scope dV doc pm c' ctv) :: (tp ++ pins)) σ H1 s' := I1.pins_of fun r hr => by
    rcases List.mem_cons.mp hr with rfl | hr
    · exact ⟨hobj, hHf, nloc hobj (fun _ _ z => nomatch z), nfr hff, fun v z => nomatch z⟩
    · rcases List.mem_append.mp hr with hr | hr
      · rcases hdf with ⟨_, e⟩ | ⟨T, hne, e, h1, h2, h3⟩
        · rw [htp0 e] at hr; cases hr
        · rw [htp T hne e] at hr
          obtain rfl := List.mem_singleton.mp hr
          exact ⟨h1, h2, nloc h1 (fun _ _ z => nomatch z), nfr h3, fun v z => nomatch z⟩
      · exact I1.pin r (List.mem_append_right _ hr)
  have want : tA X.K X.mg W ω ms σ H1 fun vs H2 => ∃ F2 G2 ρ2 ds, Le F1 F2 ∧ Sim X.K ω F2 G2 H2 ρ2 σ ∧ RDs X.K F2 vs ds ∧ ((if ds.length = np then ofRes (allR fun a F0 => bb a F0 (lamG m (fzR ω ρ2) zds) (.fn a F0 :: ds)) ρ2 else .no : Res D)).sat (fun d ρ' => ∀ v F' H', Le F2 F' → Sim X.K (rs :: ω) F' G2 H' (some d :: ρ') (some v :: σ) → Q v H') (Zx X.K X.mg W ω F2 G2 σ) := by
    refine ⟨F1, G, ρ, S1, Res.sat_mono (Res.sat_bind q) (fun ds ρ2 p vs F2 H2 l2 S2 rv => ⟨F2, G, ρ2, ds, l2, S2, rv, Res.sat_mono p (fun d ρ' z v F' H' l' S' => z v F' H' (l1.trans (l2.trans l')) S') fun _ _ z => (z.le l1).le l2⟩) fun _ _ z => z.le l1⟩
  refine thn (ha.run pos _ s' σ H1 _ I2 want) fun us s2 ⟨vs, H2, I3, r, F2, G2, ρ2, ds, l2, S2, rv, sat⟩ => ⟨I3.kIn, ?_⟩
  have I4 : Inv X pins σ H2 s2 := I3.pins_of fun r hr => I3.pin r (List.mem_append_right _ (List.mem_cons_of_mem _ (List.mem_append_right _ hr)))
  have pf := I3.pin (f, lamObj X params body scope dV doc pm c' ctv) (List.mem_append_right _ List.mem_cons_self)
  have hdf2 : DfO X s2 H2 dV zs := by
    rcases hdf with z | ⟨T, hne, rfl, h1, h2, h3⟩
    · exact .inl z
    · have pT := I3.pin (T, PySem.W.kdv_tup zs) (List.mem_append_right _ (List.mem_cons_of_mem _ (List.mem_append_left _ (by rw [htp T hne rfl]; exact List.mem_singleton.mpr rfl))))
      exact .inr ⟨T, hne, rfl, pT.1, pT.2.1, h3⟩
  have lz : zs.length = zds.length := by rw [← rz.length, (rzd F2).length]
  obtain ⟨base', sub, en, ask⟩ := ask_lam (np := npL) (k := kb) (m := m) I4 S2 L nd hfn pf.1 pf.2.1 hff (l2 _ _ fco) hdf2 rz rzd (fun s1 us hu hd => hbd _ _ _ _ _ _ _ _ _ _ hu lz hd) (by rw [lz]; exact hps) (fun A outer s1 HZ E hr' gd' => hbody A outer s1 HZ E f c' hr' gd')
  obtain ⟨G', gH', dj', back⟩ := S2.aside
  by_cases hnp : ds.length = np
  rotate_left
  · rw [if_neg hnp] at sat; exact sat.elim
  rw [if_pos hnp] at sat
  have m' := en.mod
  have bm' : BmOk X.K X.mg base' := fun p hp => ⟨(bm p hp).1.keeps sub, (bm p hp).2⟩
  have rr : Vals (.ref f :: vs) (.ref f :: us) := .cons rfl r
  have lr : (Value.ref f :: us).length = ps0.length := by rw [← rr.length, List.length_cons, rv.length, hnp, hps0]
  have b := Fn.bd s2 (.ref f :: us) I4.kIn (by rw [List.append_nil]; exact lr)
  rw [List.append_nil] at b
  refine wpAny_call (codeAny_mono ((Fn.fn base' m'.kin m'.glob bm').run X.A X.stack s2 H2 ⟨.ref f :: us, []⟩ (.ref f :: us) (.ref f :: vs) Q (fun cls d H => W cls d σ H) hr gd en b rr ⟨?_, f, F2, _, vs, rfl, ask, F2, G', ds, Le.refl _, rv, S2.fH, gH', dj', ?_⟩) fun r s3 hq => ?_)
  · rw [List.length_cons, rv.length, hnp]
  · have sat2 : (allR fun a F0 => bb a F0 (lamG m (fzR ω ρ2) zds) (.fn a F0 :: ds)).sat (fun d _ => ∀ v F' H', Le F2 F' → Sim X.K (rs :: ω) F' G2 H' (some d :: ρ2) (some v :: σ) → Q v H') (fun e _ => Zx X.K X.mg W ω F2 G2 σ e ρ2) := by
      unfold ofRes at sat
      cases e : allR fun a F0 => bb a F0 (lamG m (fzR ω ρ2) zds) (.fn a F0 :: ds) with
      | no => rw [e] at sat; exact sat
      | ok d _ => rw [e] at sat; exact sat
      | exc x _ => rw [e] at sat; exact sat
    refine Res.sat_mono (allR_sat sat2 f F2) (fun d _ z v F' H' l' S' => z v F' H' l' (back l' S')) fun e _ z F' H' cls dx l' fH' gH' dj'' xx => z F' H' cls dx l' (back (ω' := []) (ρ' := []) (σ' := []) l' ⟨⟨[], .nil, fun _ m => by cases m⟩, fH', gH', dj''⟩) xx
  · cases r with
    | error e => exact hx σ pins H2 s2 e s3 I4 hq
    | ok fl => cases fl <;> first | exact I4.after hq | exact False.elim hq
/-- within a lambda's body -/
theorem letsL {X : Cx} {A : Around} {outer : List Env} {s : Shared} {H : Hp} {E : XK} {scope : Scope} {f c' : Addr} {ps : List Str} : Lets (lamC X A outer s H E scope f c' ps) (fun cls d _ H => E cls d H) := fun σ => passAt (takes_of rfl rfl rfl rfl) σ
end
end DL
namespace DL
open PySem
@[simp] theorem s_callHM {np : Nat} {bb : Addr → L2.Hp → (List D → Res D) → List D → Res D} {lam : Rho → List D → Res D} {ms : M (List D)} {ρ : Rho} : callHM np bb lam ms ρ = (bindM ms fun ds ρ => if ds.length = np then ofRes (allR fun a F0 => bb a F0 (lam ρ) (.fn a F0 :: ds)) ρ else .no) ρ := rfl
@[simp] theorem s_lamG {m : M D} {ρ : Rho} {zds ds : List D} : lamG m ρ zds ds = match m (ρ ++ (ds ++ zds).map some) with
  | .ok d _ => .ok d []
  | .exc e _ => .exc e []
  | .no => .no := rfl
@[simp] theorem s_askM {j np : Nat} {fa : Addr} {F0 : L2.Hp} {g : List D → Res D} {ms : M (List D)} {ρ : Rho} : askM j fa F0 np g ms ρ = (bindM (chkFn j fa F0) fun _ => bindM ms fun ds => if ds.length = np then ofRes (g ds) else failM) ρ := rfl
end DL
/-! DL: try: .. except C as n: y = n, by data. -/
namespace DL
open PySem PySem.Spec PyProof.Rows L2
/-- what an except clause for the class q catches -/
def tryB (K : Fg) (exs : List Str) (q : Str) : Bool := exs.all fun x => decide (PySem.W.exmOne K (.ref (He.ga K x)) (.ref (He.ga K q)) = some true)
/-- i: the clause's name, j: where the caught one is kept -/
def tryM (i j : Nat) (exs : List Str) (mb : M Fl) : M Fl := fun ρ => match mb ρ with
  | .ok .nx ρ1 => .ok .nx ρ1
  | .exc e ρ1 => if exs.contains e.cls = true then .ok .nx (((ρ1.set i none).set j (some (.exn e.cls e.fs))).set i none) else .no
  | _ => .no
@[simp] theorem s_tryM {i j : Nat} {exs : List Str} {mb : M Fl} {ρ : Rho} : tryM i j exs mb ρ = match mb ρ with
  | .ok .nx ρ1 => .ok .nx ρ1
  | .exc e ρ1 => if exs.contains e.cls = true then .ok .nx (((ρ1.set i none).set j (some (.exn e.cls e.fs))).set i none) else .no
  | _ => .no := rfl
theorem exh_nm {a : Addr} {c : Value} {d : Option Addr} : ¬ Mut (ExH a c d) := fun z => z
theorem exh_nt {a : Addr} {c : Value} {d : Option Addr} : ∀ ps, ExH a c d ≠ .tbl ps := fun ps z => by unfold ExH at z; cases z
section
variable {X : Cx} {C : Sx} {ω : List Sh} {i j : Nat} {x n y : Str} {exs : List Str} {b : List Stmt} {mb : M Fl} {np p1 p2 p3 pos pos' : Pos}
theorem ds_try (hs : X.stack = X.env :: X.outer) (hf : X.env.frame = some X.env.locals) (hex : X.ex = []) (hN : X.N.Nodup) (hi : X.N[i]? = some n) (hj : X.N[j]? = some y) (hln : X.env.kindOf n = some .local) (hly : X.env.scope.names.lookup y = some .local) (hv : ∀ (a : Addr) (pn : List (Addr × Obj)), PE (X.suite a pn) (.Name n p2) (tVar i))
    (h1 : ω[i]? = some .fz) (h2 : ω[j]? = some .fz) (hgx : Gl X x) (hm : X.mg x = some (.ref (He.ga X.K x))) (ht : tryB X.K exs x = true) (hmg : ∀ z ∈ exs, X.mg z = some (.ref (He.ga X.K z)))
    (hb : ∀ (W : WX) (pn : List (Addr × Obj)) (xe : Value → Shared → Prop), Takes (X.tr pn xe) W → PassesOwn (model X.prog X.w) X.A X.env xe → DSs (X.tr pn xe) ⟨W, ω, C.R, C.ωl⟩ ω b ω mb) (hdb : (x == ("__debug__" : Str)) = false := by decide)
    (hsw : ∀ (a : Addr) (pn : List (Addr × Obj)), swapsWith (.Name n p2) (some (.Name y p1)) p3.line (X.suite a pn).env = pure false := by intro _ _; rfl) :
    DS X C ω (.Try b [.ExceptHandler (some (.Name x np)) (some n) [.Assign [.Name y p1] (.Name n p2) p3] pos'] [] [] pos) ω (tryM i j exs mb) := by
  refine PS.imp (ps_try_keep (c := .ref (He.ga X.K x)) (i := i) (tb := fun W => tS X.K X.mg ⟨W, ω, C.R, C.ωl⟩ ω ω mb) (ts := fun _ _ _ => tAsg (tVar i) (gName j)) hs hf hex hN hi hln ⟨hgx, hdb, .inl hm⟩ hb fun a oe cls d pn hz hd => pss_one (ps_set hN hj (.inl hly) (hv a _) (hsw a _) (.inr hly))) fun D σ H ⟨F, G, ρ, S, q⟩ => ?_
  refine ⟨F, G, ρ, S, ?_⟩
  unfold tryM at q
  cases em : mb ρ with
  | no => rw [em] at q; exact q.elim
  | ok fl ρ1 =>
    rw [em] at q
    cases fl with
    | nx => exact q
    | rt d => exact q.elim
    | bk => exact q.elim
    | ct => exact q.elim
  | exc e ρ1 =>
    rw [em] at q
    dsimp only at q
    by_cases he : exs.contains e.cls = true
    rotate_left
    · rw [if_neg he] at q; exact q.elim
    rw [if_pos he] at q
    intro σ1 F1 H1 cls dx l S1 xx
    obtain ⟨Cc, rfl, hC, hx⟩ := xx
    have hmem : e.cls ∈ exs := List.contains_iff_mem.mp he
    have eC := hC.symm.trans (hmg _ hmem)
    cases eC
    have hc1 : PySem.W.exmOne X.K (.ref (He.ga X.K e.cls)) (.ref (He.ga X.K x)) = some true := of_decide_eq_true (List.all_eq_true.mp ht _ hmem)
    refine ⟨hc1, fun a na => ?_⟩
    have hil : i < σ1.length := by
      obtain ⟨⟨fp, o, _⟩, _⟩ := S1
      obtain ⟨z1, z2⟩ := o.len
      rw [z2, ← z1]
      exact (List.getElem?_eq_some_iff.mp h1).1
    refine ⟨.ref a, by rw [List.getElem?_set_self hil], fun na2 => ?_⟩
    -- the exception is frozen
    obtain ⟨F2, l2, rd, S2⟩ : ∃ F2, Le F1 F2 ∧ RD X.K F2 (.ref a) (.exn e.cls e.fs) ∧ Sim X.K ω F2 G (upd H1 a (ExH a (.ref (He.ga X.K e.cls)) dx)) ρ1 σ1 := by
      cases dx with
      | none =>
        have hx : e.fs = [] := hx
        obtain ⟨l3, S3⟩ := S1.new (o := ExH a (.ref (He.ga X.K e.cls)) none) na
        refine ⟨_, l3, ?_, S3⟩
        rw [hx]
        exact .exn0 upd_same
      | some d =>
        obtain ⟨fs, hd, e1, rs⟩ := hx
        obtain ⟨F3, l3, fd, S3⟩ := S1.freezeO hd (fun z => z) (fun ps z => by cases z)
        obtain ⟨l4, S4⟩ := S3.new (o := ExH a (.ref (He.ga X.K e.cls)) (some d)) na
        exact ⟨_, l3.trans l4, .exn upd_same (l4 _ _ fd) e1 (rs.mono (l3.trans l4)), S4⟩
    have S3 := S2.put (x := some (.ref a)) (y := none) h1 (.inl rfl)
    have S4 := S3.put (x := some (.ref a)) (y := some (.exn e.cls e.fs)) h2 (.inr ⟨_, _, rfl, rfl, rd⟩)
    have S5 := S4.put (x := none) (y := none) h1 (.inl rfl)
    exact q _ F2 _ (l.trans l2) S5
end
end DL
/-! DL: dict comprehensions, keys ints or texts; len of such a dict. -/
namespace DL
open PySem PySem.Spec PyProof.Rows L2
/-- the turns of a dict comprehension -/
def dcL (vs : List Nat) (t : Tg) (tt : M Bool) (tk tv : M D) : List D → List (Key × D) → M (List (Key × D))
  | [], acc => pureM acc
  | d :: ds, acc => fun ρ => match t d ρ with
    | none => .no
    | some ρ1 => match tt ρ1 with
      | .ok true ρ2 => (match tk ρ2 with
        | .ok k ρ3 => (match tv ρ3 with
          | .ok v ρ4 => (match dputD (.dK acc) k v with
            | some (.dK acc') => dcL vs t tt tk tv ds acc' (wipeR ρ4 vs)
            | _ => .no)
          | _ => .no)
        | _ => .no)
      | .ok false ρ2 => dcL vs t tt tk tv ds acc (wipeR ρ2 vs)
      | _ => .no
def dcM (vs : List Nat) (ms : M (List D)) (t : Tg) (tt : M Bool) (tk tv : M D) : M D := bindM ms fun ds ρ => match dcL vs t tt tk tv ds [] (wipeR ρ vs) with
  | .ok acc ρ' => .ok (.dK acc) (restR ρ ρ' vs)
  | _ => .no
theorem Sim.isK {K : Fg} {ω : List Sh} {F G H : Hp} {ρ : Rho} {σ : L2.St} {D : Addr} {ks : List (Key × DL.D)} (S : Sim K (.dct .fz :: ω) F G H (some (.dK ks) :: ρ) (some (.ref D) :: σ)) : ∃ kvs, H D = some (.dK kvs) := by
  obtain ⟨⟨fp, o, n⟩, _⟩ := S
  cases o with
  | bd w _ _ =>
    cases w with
    | dK h _ _ _ => exact ⟨_, h⟩
theorem w1_ (d : Option D) (ρ : Rho) : ∀ ws : List Nat, wipeR (d :: ρ) (ws.map (· + 1)) = d :: wipeR ρ ws
  | [] => rfl
  | w :: ws => by
    show ((wipeR (d :: ρ) (ws.map (· + 1))).set (w + 1) none) = _
    rw [w1_ d ρ ws]; rfl
theorem w2_ (d : Option V) (σ : L2.St) : ∀ ws : List Nat, L2.wipe (d :: σ) (ws.map (· + 1)) = d :: L2.wipe σ ws
  | [] => rfl
  | w :: ws => by
    show ((L2.wipe (d :: σ) (ws.map (· + 1))).set (w + 1) none) = _
    rw [w2_ d σ ws]; rfl
section
variable {X : Cx} {W : WX} {C : Sx} {ω : List Sh} {pos : Pos} {a b c e : Expr} {m m1 m2 m3 : M D} {sh : Sh}
theorem tdc {ms : M (List D)} {t : Tg} {tt : M Bool} {tk tv : M D} {vs : List Nat} (hv : ∀ i ∈ vs, ω[i]? = some .fz) {σ : L2.St} {H : Hp} {Q : VK} (h : tM X.K X.mg W ω (.dct .fz) (dcM vs ms t tt tk tv) σ H Q) :
    tDc (tI X.K X.mg W ω ms) (tGD X.K ω vs t) (tT X.K X.mg W0 ω tt) (tM X.K X.mg W0 ω .fz tk) (tM X.K X.mg W0 ω .fz tv) vs σ H Q := by
  obtain ⟨F, G, ρ, S, q⟩ := h
  refine ⟨F, G, ρ, S, Res.sat_mono (Res.sat_bind q) (fun ds ρ1 p J F1 H1 l S1 wl D nD => ?_) fun _ _ z => z⟩
  refine ⟨fun i n H2 => n = ds.length - i ∧ i ≤ ds.length ∧ ∃ F2 ρ2 ks zs ρ3, Le F1 F2 ∧ Sim X.K (.dct .fz :: ω) F2 G H2 (some (.dK ks) :: ρ2) (some (.ref D) :: L2.wipe σ vs) ∧
    dcL vs t tt tk tv (ds.drop i) ks ρ2 = .ok zs ρ3 ∧ ∀ F' H' , Le F1 F' → Sim X.K (.dct .fz :: ω) F' G H' (some (.dK zs) :: restR ρ1 ρ3 vs) (some (.ref D) :: σ) → Q (.ref D) H', ⟨ds.length, ?_⟩, ?_⟩
  · cases el : dcL vs t tt tk tv ds [] (wipeR ρ1 vs) with
    | ok ys ρ2 =>
      rw [el] at p
      refine ⟨by simp, Nat.zero_le _, F1, wipeR ρ1 vs, [], ys, ρ2, Le.refl _, ?_, el, fun F' H' l' S' => p _ F' H' (l.trans l') S'⟩
      obtain ⟨⟨fp, o, n⟩, a, b, dj⟩ := S1.wipe hv
      have fD : F1 D = none := a.none nD
      have gD : G D = none := b.none nD
      refine ⟨⟨[D] ++ fp, .bd (.dK upd_same rfl (Owns.of_rds .nil) (fun z => by cases z)) (o.mono (Le.refl _) fun x m u e => by rw [upd_ne (ne_of_none e nD)]; exact e) fun x m z => ?_, fun x m => ?_⟩, fun x u e => ?_, fun x u e => ?_, dj⟩
      · have : x = D := by simpa using m
        subst this
        obtain ⟨u, e⟩ := o.live x z
        rw [nD] at e; cases e
      · rcases List.mem_append.mp m with m | m
        · have : x = D := by simpa using m
          subst this; exact ⟨fD, gD⟩
        · exact n x m
      · rw [upd_ne (ne_of_none e fD)]; exact a x u e
      · exact b.trans (Le.upd nD) x u e
    | exc x ρ2 => rw [el] at p; exact p.elim
    | no => rw [el] at p; exact p.elim
  · rintro i n H2 ⟨rfl, hi, F2, ρ2, ks, zs, ρ3, l2, S2, el, fin⟩
    by_cases hlt : i < ds.length
    · have ed : ds.drop i = ds[i] :: ds.drop (i + 1) := List.drop_eq_getElem_cons hlt
      rw [ed] at el
      unfold dcL at el
      refine .inr ⟨wl.go F2 H2 i l2 S2.fH hlt, fun H' => ∃ F3 ρ2 ks zs ρ3, Le F1 F3 ∧ Sim X.K (.dct .fz :: ω) F3 G H' (some (.dK ks) :: ρ2) (some (.ref D) :: L2.wipe σ vs) ∧
        dcL vs t tt tk tv (ds.drop (i + 1)) ks ρ2 = .ok zs ρ3 ∧ ∀ F' H' , Le F1 F' → Sim X.K (.dct .fz :: ω) F' G H' (some (.dK zs) :: restR ρ1 ρ3 vs) (some (.ref D) :: σ) → Q (.ref D) H',
        fun H' z => ⟨ds.length - (i + 1), by omega, rfl, hlt, z⟩, fun x H3 y => ?_⟩
      obtain ⟨F3, gr, rd⟩ := wl.yld F2 H2 i x H3 ds[i] l2 S2.fH (by simp [hlt]) y
      obtain ⟨G', S3, back⟩ := (S2.gr gr).hide
      cases et : t ds[i] ρ2 with
      | none => rw [et] at el; cases el
      | some ρ4 =>
        rw [et] at el
        dsimp only at el
        refine ⟨F3, G', ρ2, _, ρ4, rd, S3, et, fun σ4 F4 H4 tc l4 S4 => ⟨by rw [tc.wipe]; exact (Tch.wipe (vs := vs) (σ := σ) ⟨wipe_length σ vs, fun j hj => wipe_out hj⟩), ?_⟩⟩
        have wσ : L2.wipe σ4 vs = L2.wipe σ vs := by rw [tc.wipe]; exact (Tch.wipe (vs := vs) (σ := σ) ⟨wipe_length σ vs, fun j hj => wipe_out hj⟩)
        refine ⟨F4, G', ρ4, S4, ?_⟩
        cases eb : tt ρ4 with
        | ok k ρ5 =>
          rw [eb] at el
          refine fun F5 H5 l5 S5 => ?_
          cases k with
          | true =>
            dsimp only at el
            rw [if_pos rfl]
            refine ⟨F5, G', ρ5, S5, ?_⟩
            cases ek : tk ρ5 with
            | ok kd ρ6 =>
              rw [ek] at el
              dsimp only at el
              refine fun kv F6 H6 l6 S6 => ?_
              obtain ⟨rk, S7⟩ := S6.top
              refine ⟨F6, G', ρ6, S7, ?_⟩
              cases ee : tv ρ6 with
              | ok vd ρ7 =>
                rw [ee] at el
                dsimp only at el
                refine fun v F7 H7 l7 S7 => ?_
                obtain ⟨rv, S8⟩ := S7.top
                have l37 : Le F3 F7 := l4.trans (l5.trans (l6.trans l7))
                have S9 := back l37 S8
                cases ep : dputD (.dK ks) kd vd with
                | none => rw [ep] at el; cases el
                | some dd =>
                  rw [ep] at el
                  cases dd with
                  | dK ks' =>
                    dsimp only at el
                    obtain ⟨aD, eD, _, up⟩ := S9.dctO (i := 0) (s := .dct .fz) rfl rfl rfl
                    have : aD = D := by
                      have q : (some (V.ref D) :: σ4)[0]? = some (some (V.ref D)) := rfl
                      rw [q] at eD
                      cases eD; rfl
                    subst this
                    obtain ⟨H8, hput, S10⟩ := up _ _ _ _ _ (rk.mono l7) rv ep
                    obtain ⟨kvs0, hD⟩ := S9.isK
                    rcases hput with ⟨kvs, kk, h1, h2, h3, h4⟩ | ⟨kvs, kk, b, h1, _⟩
                    · subst h2 h4
                      refine ⟨kvs, kk, rfl, h1, h3, F7, wipeR ρ7 vs, ks', zs, ρ3, l2.trans (gr.lf.trans l37), ?_, el, fin⟩
                      have S10' : Sim X.K (.dct .fz :: ω) F7 G (upd H7 aD (.dK (putK kvs kk v))) (some (.dK ks') :: ρ7) (some (.ref aD) :: σ4) := S10
                      have := Sim.wipe (vs := vs.map (· + 1)) S10' (fun j hj => by
                        obtain ⟨k, hk, rfl⟩ := List.mem_map.mp hj
                        simpa using hv k hk)
                      rw [← wσ]
                      rw [w1_, w2_] at this
                      exact this
                    · rw [hD] at h1; cases h1
                  | _ => cases el
              | exc x ρ7 => rw [ee] at el; cases el
              | no => rw [ee] at el; cases el
            | exc x ρ6 => rw [ek] at el; cases el
            | no => rw [ek] at el; cases el
          | false =>
            dsimp only at el
            rw [if_neg Bool.false_ne_true]
            have l35 : Le F3 F5 := l4.trans l5
            have S8 := back l35 S5
            refine ⟨F5, wipeR ρ5 vs, ks, zs, ρ3, l2.trans (gr.lf.trans l35), ?_, el, fin⟩
            rw [← wσ]
            obtain ⟨G2, S9, back2⟩ := S8.hide
            exact back2 (Le.refl _) (S9.wipe hv)
        | exc x ρ5 => rw [eb] at el; cases el
        | no => rw [eb] at el; cases el
    · have e : i = ds.length := by omega
      subst e
      rw [List.drop_length] at el
      cases el
      refine .inl ⟨wl.stop F2 H2 l2 S2.fH, fin F2 H2 l2 ?_⟩
      obtain ⟨G', S3, back⟩ := S2.hide
      have S4 := S1.rest l2 S3 hv
      rw [restS_wipe] at S4
      exact back (Le.refl _) S4
theorem de_dc {kx vx tg iter : Expr} {ifs : List Expr} {scope : Scope} {own : List (Str × Nat)} {ms : M (List D)} {t : Tg} {tt : M Bool} {tk tv : M D} (hc : X.calm = true) (hN : X.N.Nodup) (hv : ∀ i ∈ own.map (·.2), ω[i]? = some .fz) (hi : DI X W ω tg iter ms) (ok : BlkOk X.N X.env.scope scope own)
    (hg : ∀ (s : Shared) (H : Hp) (C : Addr) (cl : List (Str × Addr)) (fp : List Addr), DG (X.blk s H scope (compEnvC scope cl C X.env) fp) ω (own.map (·.2)) tg t)
    (ht : ∀ (s : Shared) (H : Hp) (C : Addr) (cl : List (Str × Addr)) (fp : List Addr), DTs (X.blk s H scope (compEnvC scope cl C X.env) fp) W0 ω ifs tt)
    (hk : ∀ (s : Shared) (H : Hp) (C : Addr) (cl : List (Str × Addr)) (fp : List Addr), DE (X.blk s H scope (compEnvC scope cl C X.env) fp) W0 ω kx .fz tk)
    (he : ∀ (s : Shared) (H : Hp) (C : Addr) (cl : List (Str × Addr)) (fp : List Addr), DE (X.blk s H scope (compEnvC scope cl C X.env) fp) W0 ω vx .fz tv) (hs : ∀ x, foldedSetIterable iter X.env x = pure x := by intro _; rfl) :
    DE X W ω (.DictComp kx vx [⟨tg, iter, ifs, 0⟩] scope pos) (.dct .fz) (dcM (own.map (·.2)) ms t tt tk tv) :=
  PE.imp (pe_dc hc hN hi ok hg ht hk he hs) fun σ H Q q => tdc hv q
/-- len of a dict too -/
def gLenA : List D → Option D
  | [.dK xs] => some (.int xs.length)
  | ds => gLen ds
theorem cd_lenA : CallD X (.builtin "len") gLenA := fun F ds r e => by
  unfold gLenA at e
  split at e
  · cases e
    refine CallR.imp call_lenD fun xs H Q ⟨l, rs, q⟩ => ?_
    cases rs with
    | cons r rs =>
      cases rs
      cases r with
      | dK h e1 s => exact ⟨_, _, rfl, l _ _ h, by rw [keys_len e1]; exact q _ F H (Gr.refl l) (.int _)⟩
  · exact cd_len F ds r e
end
@[simp] theorem s_lenA {xs : List (Key × D)} : gLenA [.dK xs] = some (.int xs.length) := rfl
@[simp] theorem s_dcM {vs : List Nat} {ms : M (List D)} {t : Tg} {tt : M Bool} {tk tv : M D} {ρ : Rho} : dcM vs ms t tt tk tv ρ = (bindM ms fun ds ρ => match dcL vs t tt tk tv ds [] (wipeR ρ vs) with
  | .ok acc ρ' => .ok (.dK acc) (restR ρ ρ' vs)
  | _ => .no) ρ := rfl
end DL
/-! DL: dict displays, keys ints or texts. -/
namespace DL
open PySem PySem.Spec PyProof.Rows L2
def pairsM : List (M D × M D) → M (List (D × D))
  | [] => pureM []
  | p :: r => bindM p.1 fun k => bindM p.2 fun v => bindM (pairsM r) fun ps => pureM ((k, v) :: ps)
def kdsD : List (D × D) → Option (List (Key × D))
  | [] => some []
  | p :: r => (keyD p.1).bind fun k => (kdsD r).map ((k, p.2) :: ·)
def mergeKD (kvs more : List (Key × D)) : List (Key × D) := more.foldl (fun acc kv => putKD acc kv.1 kv.2) kvs
def gDisp (ps : List (D × D)) : Option D := if ps.length ≤ 15 then (kdsD ps).map fun kvs => .dK (mergeKD [] kvs) else none
def dispM (mps : List (M D × M D)) : M D := bindM (pairsM mps) fun ps => liftO (gDisp ps)
theorem kds_ok {K : Fg} {F : Hp} : ∀ {ds : List (D × D)} {ps : List (V × V)} {kds : List (Key × D)}, RDs K F (ps.map (·.1)) (ds.map (·.1)) → RDs K F (ps.map (·.2)) (ds.map (·.2)) → kdsD ds = some kds →
    ∃ kvs : List (Key × V), ps = kvs.map (fun kv => (kV kv.1, kv.2)) ∧ kvs.map (·.1) = kds.map (·.1) ∧ RDs K F (kvs.map (·.2)) (kds.map (·.2)) ∧ kds.length = ds.length
  | [], [], _, _, _, e => by cases e; exact ⟨[], rfl, rfl, .nil, rfl⟩
  | [], _ :: _, _, r, _, _ => by cases r
  | _ :: _, [], _, r, _, _ => by cases r
  | d :: ds, p :: ps, _, r1, r2, e => by
    rw [List.map_cons, List.map_cons] at r1 r2
    cases r1 with
    | cons a1 b1 =>
      cases r2 with
      | cons a2 b2 =>
        unfold kdsD at e
        obtain ⟨k, ek, e⟩ := Option.bind_eq_some_iff.mp e
        obtain ⟨ks, e2, rfl⟩ := Option.map_eq_some_iff.mp e
        obtain ⟨kvs, q1, q2, q3, q4⟩ := kds_ok b1 b2 e2
        have q5 := keyD.ok a1 ek
        refine ⟨(k, p.2) :: kvs, ?_, by simp [q2], .cons a2 q3, by simp [q4]⟩
        rw [List.map_cons, ← q1, ← q5]
theorem merge_rd {K : Fg} {F : Hp} : ∀ {mv : List (Key × V)} {md : List (Key × D)} {vs : List (Key × V)} {ds : List (Key × D)}, mv.map (·.1) = md.map (·.1) → RDs K F (mv.map (·.2)) (md.map (·.2)) → vs.map (·.1) = ds.map (·.1) → RDs K F (vs.map (·.2)) (ds.map (·.2)) →
    (mergeK vs mv).map (·.1) = (mergeKD ds md).map (·.1) ∧ RDs K F ((mergeK vs mv).map (·.2)) ((mergeKD ds md).map (·.2))
  | [], [], _, _, _, _, e, r => ⟨e, r⟩
  | [], _ :: _, _, _, e, _, _, _ => by cases e
  | _ :: _, [], _, _, e, _, _, _ => by cases e
  | (k, v) :: mv, (k', d) :: md, vs, ds, e0, r0, e, r => by
    simp only [List.map_cons, List.cons.injEq] at e0
    obtain ⟨rfl, e0⟩ := e0
    cases r0 with
    | cons a b =>
      obtain ⟨p1, p2⟩ := put_rd a (k := k) e r
      exact merge_rd (mv := mv) (md := md) e0 b p1 p2
section
variable {X : Cx} {W : WX} {C : Sx} {ω : List Sh} {pos : Pos} {a b c e k v : Expr} {m m1 m2 m3 mk mv : M D} {sh : Sh}
def tPM (K : Fg) (mg : Str → Option Value) (W : WX) (ω : List Sh) (mps : List (M D × M D)) : L2.St → Hp → (List (V × V) → Hp → Prop) → Prop := fun σ H Q => ∃ F G ρ, Sim K ω F G H ρ σ ∧ (pairsM mps ρ).sat (fun ds ρ1 => ∀ ps F1 H1, Le F F1 → Sim K ω F1 G H1 ρ1 σ → RDs K F1 (ps.map (·.1)) (ds.map (·.1)) → RDs K F1 (ps.map (·.2)) (ds.map (·.2)) → Q ps H1) (Zx K mg W ω F G σ)
theorem tpm : ∀ {mps : List (M D × M D)} {σ : L2.St} {H : Hp} {Q : List (V × V) → Hp → Prop}, tPM X.K X.mg W ω mps σ H Q → tPairs (mps.map fun p => (tM X.K X.mg W ω .fz p.1, tM X.K X.mg W ω .fz p.2)) σ H Q
  | [], σ, H, Q, ⟨F, G, ρ, S, q⟩ => q [] F H (Le.refl _) S .nil .nil
  | p :: r, σ, H, Q, ⟨F, G, ρ, S, q⟩ => by
    refine ⟨F, G, ρ, S, Res.sat_mono (Res.sat_bind (m := p.1) q) (fun kd ρ1 q1 x F1 H1 l1 S1 => ?_) fun _ _ z => z⟩
    obtain ⟨rk, S1⟩ := S1.top
    refine ⟨F1, G, ρ1, S1, Res.sat_mono (Res.sat_bind (m := p.2) q1) (fun vd ρ2 q2 y F2 H2 l2 S2 => ?_) fun _ _ z => z.le l1⟩
    obtain ⟨rv, S2⟩ := S2.top
    refine tpm (mps := r) ⟨F2, G, ρ2, S2, Res.sat_mono (Res.sat_bind (m := pairsM r) q2) (fun ds ρ3 q3 ps F3 H3 l3 S3 r1 r2 => ?_) fun _ _ z => (z.le l1).le l2⟩
    exact q3 ((x, y) :: ps) F3 H3 (l1.trans (l2.trans l3)) S3 (.cons (rk.mono (l2.trans l3)) r1) (.cons (rv.mono l3) r2)
abbrev DPs (X : Cx) (W : WX) (ω : List Sh) (pos : Pos) (keys : List (Option Expr)) (values : List Expr) (mps : List (M D × M D)) : Prop := PPs X pos keys values (mps.map fun p => (tM X.K X.mg W ω .fz p.1, tM X.K X.mg W ω .fz p.2))
theorem dps_nil : DPs X W ω pos [] [] [] := pps_nil
theorem dps_cons {ks : List (Option Expr)} {vs : List Expr} {mps : List (M D × M D)} (hk : DE X W ω k .fz mk) (hv : DE X W ω v .fz mv) (hr : DPs X W ω pos ks vs mps) : DPs X W ω pos (some k :: ks) (v :: vs) ((mk, mv) :: mps) := pps_cons hk hv hr
theorem de_disp {keys : List (Option Expr)} {values : List Expr} {mps : List (M D × M D)} (h : DPs X W ω pos keys values mps) (h0 : keys ≠ [] := by exact List.cons_ne_nil _ _) (hall : keys.all (·.isSome) = true := by rfl) (hl : keys.length = values.length := by rfl) (h15 : keys.length ≤ 15 := by decide) :
    DE X W ω (.Dict keys values pos) (.dct .fz) (dispM mps) := PE.imp (pe_disp h hall hl h0 h15) fun σ H Q ⟨F, G, ρ, S, q⟩ p np => by
  have S0 : Sim X.K (.dct .fz :: ω) F G (upd H p (.dK [])) (some (.dK []) :: ρ) (some (.ref p) :: σ) := by
    obtain ⟨⟨fp, o, n⟩, a, b, dj⟩ := S
    have fD : F p = none := a.none np
    have gD : G p = none := b.none np
    refine ⟨⟨[p] ++ fp, .bd (.dK upd_same rfl (Owns.of_rds .nil) (fun z => by cases z)) (o.mono (Le.refl _) fun x m u e => by rw [upd_ne (ne_of_none e np)]; exact e) fun x m z => ?_, fun x m => ?_⟩, fun x u e => ?_, fun x u e => ?_, dj⟩
    · have : x = p := by simpa using m
      subst this
      obtain ⟨u, e⟩ := o.live x z
      rw [np] at e; cases e
    · rcases List.mem_append.mp m with m | m
      · have : x = p := by simpa using m
        subst this; exact ⟨fD, gD⟩
      · exact n x m
    · rw [upd_ne (ne_of_none e fD)]; exact a x u e
    · exact b.trans (Le.upd np) x u e
  obtain ⟨G', S1, back⟩ := S0.hide
  refine tpm ⟨F, G', ρ, S1, Res.sat_mono (Res.sat_bind q) (fun ds ρ1 q1 ps F1 H1 l1 S2 r1 r2 => ?_) fun e ρ' z F' H' cls dx l' S' xx => ?_⟩
  · obtain ⟨⟨fp, o, n⟩, a, b, dj⟩ := back l1 S2
    cases o with
    | @bd _ _ _ _ _ _ f1 f2 w o2 nn =>
      cases w with
      | @dK _ _ kvs0 _ fq h1 h2 h3 h4 =>
        obtain ⟨h3, e0⟩ := h3.fz_rds
        subst e0
        have e1 : kvs0 = [] := by
          cases kvs0 with
          | nil => rfl
          | cons _ _ => simp at h2
        subst e1
        unfold gDisp at q1
        by_cases hz : ds.length ≤ 15
        rotate_left
        · rw [if_neg hz] at q1; exact q1.elim
        rw [if_pos hz] at q1
        cases ek : kdsD ds with
        | none => rw [ek] at q1; exact q1.elim
        | some kds =>
          rw [ek] at q1
          obtain ⟨kvs, q2, q3, q4, q5⟩ := kds_ok r1 r2 ek
          have hlen : kvs.length = kds.length := by simpa using congrArg List.length q3
          obtain ⟨m1, m2⟩ := merge_rd (vs := []) (ds := []) q3 q4 rfl .nil
          have inP : p ∈ [p] ++ f2 := List.mem_append_left _ List.mem_cons_self
          have fP := (n p inP).1
          have gP := (n p inP).2
          refine ⟨h1, kvs, q2, by omega, q1 _ F1 _ l1 ⟨⟨[p] ++ f2, .bd (.dK upd_same m1 (Owns.of_rds m2) (fun z => by cases z)) (o2.mono (Le.refl _) fun x m u e => ?_) (fun x m => nn x m), n⟩, fun x u e => ?_, b.upd gP h1 trivial, dj⟩⟩
          · rw [upd_ne fun z => ?_]
            · exact e
            · rw [z] at m
              exact nn p List.mem_cons_self m
          · rw [upd_ne (ne_of_none e fP)]; exact a x u e
  · have S3 := back l' S'
    obtain ⟨⟨fp, o, n⟩, a, b, dj⟩ := S3
    cases o with
    | bd w o2 nn => exact z F' H' cls dx l' ⟨⟨_, o2, fun x m => n x (List.mem_append_right _ m)⟩, a, b, dj⟩ xx
end
@[simp] theorem s_dispM {mps : List (M D × M D)} {ρ : Rho} : dispM mps ρ = (bindM (pairsM mps) fun ps => liftO (gDisp ps)) ρ := rfl
@[simp] theorem s_pairs0 {ρ : Rho} : pairsM [] ρ = .ok [] ρ := rfl
@[simp] theorem s_pairs1 {p : M D × M D} {r : List (M D × M D)} {ρ : Rho} : pairsM (p :: r) ρ = (bindM p.1 fun k => bindM p.2 fun v => bindM (pairsM r) fun ps => pureM ((k, v) :: ps)) ρ := rfl
end DL
/-! DL: statements that are never reached. -/
namespace DL
open PySem PySem.Spec PyProof.Rows L2
theorem de_never {X : Cx} {W : WX} {ω : List Sh} {e : Expr} {sh : Sh} : DE X W ω e sh failM := ⟨fun _ _ _ _ _ _ ⟨_, _, _, _, q⟩ => q.elim⟩
end DL
namespace DL
@[simp] theorem s_ofExc {e : Exn} {σ ρ : Rho} : ofRes (.exc e σ) ρ = .exc e ρ := rfl
@[simp] theorem s_madeExc {e : Exn} {σ ρ : Rho} : ofMade (.exc e σ) ρ = .exc e ρ := rfl
end DL
/-! DL: deep data in a tuple. -/
namespace DL
open PySem PySem.Spec PyProof.Rows L2
def gInT : D → D → Option D := fun x y => match y with
  | .tup ds => if okD x && okDs ds then some (.bl (hasD x ds)) else none
  | .ktup ds => if okD x && okDs ds then some (.bl (hasD x ds)) else none
  | _ => none
section
variable {X : Cx}
theorem op_inTD (hu : X.A.units + 65 < cLine) : OpR X (compareOp .In) (fun x y H Q => ∃ d ds, Dp X.K H x d ∧ Dp X.K H y (.tuple ds) ∧ SeqAt.shaped d = true ∧ SeqAt.shaped (.list ds) = true ∧ Q (.bl (ds.any fun z => PyData.eqv z d)) H) := by
  intro pins s σ H x y v u Q I rx ry h
  obtain ⟨d, ds, hd, he, sd, se, q⟩ := h
  obtain ⟨as, r1⟩ := Dp.reads I d x v hd rx
  obtain ⟨bs, r2⟩ := Dp.reads I (.tuple ds) y u he ry
  exact SeqAt.in_tuple_reads r2 r1 (SeqAt.canLay_of_shaped se) (SeqAt.canLay_of_shaped sd) (room_in_shaped sd hu) ⟨.bl _, H, I, rfl, q⟩
theorem od_inT (hu : X.A.units + 65 < cLine) : OpD X (compareOp .In) gInT := fun F d1 d2 r e => by
  have go : ∀ {x : V} {d : D}, RD X.K F x d → ∀ {H : Hp}, Le F H → okD d = true → Dp X.K H x (toP d) ∧ SeqAt.shaped (toP d) = true := fun r H l h => okD.dp r l h
  unfold gInT at e
  split at e
  · rename_i ds
    split at e
    · rename_i h
      cases e
      rw [Bool.and_eq_true] at h
      refine OpR.imp (op_inTD hu) fun x y H Q ⟨l, r1, r2, q⟩ => ?_
      obtain ⟨a1, a2⟩ := okD.dp r1 l h.1
      have h2 : plainDs ds = true ∧ SeqAt.shaped (.list (toPs ds)) = true := by
        have := h.2
        unfold okDs at this
        rw [Bool.and_eq_true] at this
        exact this
      have b1 : Dp X.K H y (.tuple (toPs ds)) := RD.dp (r2.mono l) h2.1
      exact ⟨_, _, a1, b1, a2, h2.2, by rw [any_toPs]; exact q _ F H (Gr.refl l) (.bl _)⟩
    · cases e
  · rename_i ds
    split at e
    · rename_i h
      cases e
      rw [Bool.and_eq_true] at h
      refine OpR.imp (op_inTD hu) fun x y H Q ⟨l, r1, r2, q⟩ => ?_
      obtain ⟨a1, a2⟩ := okD.dp r1 l h.1
      have h2 : plainDs ds = true ∧ SeqAt.shaped (.list (toPs ds)) = true := by
        have := h.2
        unfold okDs at this
        rw [Bool.and_eq_true] at this
        exact this
      have b1 : Dp X.K H y (.tuple (toPs ds)) := RD.dp (r2.mono l) h2.1
      exact ⟨_, _, a1, b1, a2, h2.2, by rw [any_toPs]; exact q _ F H (Gr.refl l) (.bl _)⟩
    · cases e
  · cases e
abbrev gInB := gAlt gInA gInT
theorem od_inB (hu : X.A.units + 65 < cLine) : OpD X (compareOp .In) gInB := (od_inA hu).alt (od_inT hu)
end
/-- a tuple of one kind of things: is x among them -/
theorem EqE.gInT {α : Type} [DecidableEq α] {n : Nat} {e : α → D} (h : EqE n e) (hn : n ≤ 63) {d : D} (hd : okD d = true) (xs : List α) : DL.gInT d (.tup (xs.map e)) = some (.bl (xs.any fun x => eqD (e x) d)) := by
  have ok : okDs (xs.map e) = true := by
    obtain ⟨p, c, d⟩ := h.all xs
    unfold okDs SeqAt.shaped
    rw [p, show (PyData.list (toPs (xs.map e))).canLay0 = true by simp [PyData.canLay0, c], decide_eq_true (by simp only [PyData.depth]; omega)]; rfl
  show (if okD d && okDs (xs.map e) then some (D.bl (hasD d (xs.map e))) else none) = _
  rw [hd, ok]
  unfold hasD
  rw [List.any_map]
  rfl
end DL
/-! DL: data with texts in it, told and compared -/
namespace DL
open PySem
/-- a short text of plain signs -/
def okS1 (x : Str) : Bool := decide (x.cps.size ≤ 61) && ((PyData.str x).showable && ((PyData.str x).canLay0 && ((PyData.str x).leavesShort 61 && PyData.strOk (PyData.str x).shown)))
mutual
def inS : D → Bool
  | .non => true
  | .bl _ => true
  | .int i => decide (i.natAbs < 1000000000000000000000000000000000000000000000000000000000000)
  | .str x => okS1 x
  | .tup xs => inSs xs
  | .ktup xs => inSs xs
  | .lst xs => inSs xs
  | _ => false
def inSs : List D → Bool
  | [] => true
  | x :: xs => inS x && inSs xs
end
mutual
def wtS : D → Nat
  | .int _ => 201
  | .str _ => 61
  | .tup xs => wtSs xs
  | .ktup xs => wtSs xs
  | .lst xs => wtSs xs
  | _ => 0
def wtSs : List D → Nat
  | [] => 0
  | x :: xs => wtS x + 1 + wtSs xs
end
def AllS (d : D) : Prop := plainD d = true ∧ (toP d).showable = true ∧ (toP d).canLay0 = true ∧ (toP d).depth ≤ dpD d ∧ (toP d).leavesShort 61 = true ∧ (toP d).weight ≤ wtS d ∧ PyData.strOk (toP d).shown = true
def AllSs (ds : List D) : Prop := plainDs ds = true ∧ PyData.showableAll (toPs ds) = true ∧ PyData.canLayAll0 (toPs ds) = true ∧ PyData.depthAll (toPs ds) ≤ dpDs ds ∧ PyData.leavesShortAll 61 (toPs ds) = true ∧ PyData.weightAll (toPs ds) ≤ wtSs ds ∧ ∀ t ∈ PyData.shownAll (toPs ds), PyData.strOk t = true
theorem allS_int {i : Int} (h : inS (.int i) = true) : AllS (.int i) := by
  obtain ⟨a, b, c, d, e, f, g⟩ := allT (.int i) h
  exact ⟨a, b, c, d, e, f, g⟩
mutual
theorem allS : ∀ d : D, inS d = true → AllS d
  | .non, _ => by obtain ⟨a, b, c, d, e, f, g⟩ := allT .non rfl; exact ⟨a, b, c, d, e, f, g⟩
  | .bl v, _ => by obtain ⟨a, b, c, d, e, f, g⟩ := allT (.bl v) rfl; exact ⟨a, b, c, d, e, f, g⟩
  | .int i, h => allS_int h
  | .str x, h => by
    have h : okS1 x = true := h
    unfold okS1 at h
    simp only [Bool.and_eq_true] at h
    obtain ⟨h1, h2, h3, h4, h5⟩ := h
    have h1 := of_decide_eq_true h1
    exact ⟨rfl, by simpa [toP] using h2, by simpa [toP] using h3, by simp [toP, PyData.depth], by simpa [toP] using h4, by simpa [toP, PyData.weight, wtS] using h1, by simpa [toP] using h5⟩
  | .tup xs, h => by
    obtain ⟨a, b, c, d, e, f, g⟩ := allSs xs h
    refine ⟨a, by simpa [toP, PyData.showable] using b, by simpa [toP, PyData.canLay0] using c, by simpa [toP, PyData.depth, dpD] using d, by simpa [toP, PyData.leavesShort] using e, by simpa [toP, PyData.weight, wtS] using f, ?_⟩
    simp only [toP, PyData.shown]
    exact strOk_tuple g
  | .ktup xs, h => by
    obtain ⟨a, b, c, d, e, f, g⟩ := allSs xs h
    refine ⟨a, by simpa [toP, PyData.showable] using b, by simpa [toP, PyData.canLay0] using c, by simpa [toP, PyData.depth, dpD] using d, by simpa [toP, PyData.leavesShort] using e, by simpa [toP, PyData.weight, wtS] using f, ?_⟩
    simp only [toP, PyData.shown]
    exact strOk_tuple g
  | .lst xs, h => by
    obtain ⟨a, b, c, d, e, f, g⟩ := allSs xs h
    refine ⟨a, by simpa [toP, PyData.showable] using b, by simpa [toP, PyData.canLay0] using c, by simpa [toP, PyData.depth, dpD] using d, by simpa [toP, PyData.leavesShort] using e, by simpa [toP, PyData.weight, wtS] using f, ?_⟩
    simp only [toP, PyData.shown]
    exact strOk_list g
  | .ntup _, h => by cases h
  | .ty _, h => by cases h
  | .fn _ _, h => by cases h
  | .scr _, h => by cases h
  | .dK _, h => by cases h
  | .dT _, h => by cases h
  | .dZ _, h => by cases h
  | .ins _ _, h => by cases h
theorem allSs : ∀ ds : List D, inSs ds = true → AllSs ds
  | [], _ => ⟨rfl, by simp [toPs, PyData.showableAll], by simp [toPs, PyData.canLayAll0], by simp [toPs, PyData.depthAll], by simp [toPs, PyData.leavesShortAll], by simp [toPs, PyData.weightAll], by simp [toPs, PyData.shownAll]⟩
  | x :: xs, h => by
    have h : (inS x && inSs xs) = true := h
    rw [Bool.and_eq_true] at h
    obtain ⟨a, b, c, d, e, f, g⟩ := allS x h.1
    obtain ⟨a', b', c', d', e', f', g'⟩ := allSs xs h.2
    refine ⟨by show (plainD x && plainDs xs) = true; rw [a, a']; rfl, by simp [toPs, PyData.showableAll, b, b'], by simp [toPs, PyData.canLayAll0, c, c'], ?_, by simp [toPs, PyData.leavesShortAll, e, e'], ?_, ?_⟩
    · simp only [toPs, PyData.depthAll, dpDs]; omega
    · simp only [toPs, PyData.weightAll, wtSs]; omega
    · intro t ht
      simp only [toPs, PyData.shownAll, List.mem_cons] at ht
      rcases ht with rfl | ht
      · exact g
      · exact g' t ht
end
def okS (d : D) : Bool := inS d && (decide (dpD d ≤ 64) && decide (wtS d ≤ 200000))
theorem okS.parts {d : D} (h : okS d = true) : inS d = true ∧ dpD d ≤ 64 ∧ wtS d ≤ 200000 := by
  unfold okS at h
  simpa using h
theorem okS.show {d : D} (h : okS d = true) : showD d = true := by
  obtain ⟨h1, h2, h3⟩ := okS.parts h
  obtain ⟨a, b, c, e, f, g, _⟩ := allS d h1
  unfold showD
  have hl := PyData.shown_le 61 (by decide) (toP d) f
  have hs : (toP d).shown.length ≤ sizeLine := by
    have : sizeLine = 16777216 := by decide
    omega
  rw [a, b, decide_eq_true (Nat.le_trans e h2), decide_eq_true hs]; rfl
theorem okS.ok {d : D} (h : okS d = true) : okD d = true := by
  obtain ⟨h1, h2, h3⟩ := okS.parts h
  obtain ⟨a, b, c, e, f, g, _⟩ := allS d h1
  unfold okD SeqAt.shaped
  rw [a, c, decide_eq_true (Nat.le_trans e h2)]; rfl
theorem gRepr_s {d : D} (h : okS d = true) : gRepr [d] = some (rp d) := by
  show (if showD d = true then some (D.str (toP d).shown) else none) = _
  rw [if_pos (okS.show h)]; rfl
theorem rp_okS {d : D} (h : okS d = true) : okD (rp d) = true := by
  obtain ⟨_, _, _, _, _, _, g⟩ := allS d (okS.parts h).1
  unfold okD SeqAt.shaped rp
  simp [plainD, toP, PyData.canLay0, PyData.depth, g]
theorem gNe_rpS {d : D} (h : okS d = true) : gNe (rp d) (rp d) = some (.bl false) := by
  unfold gNe
  rw [rp_okS h, eqD_self (rp_okS h)]; rfl
theorem gEq_selfS {d : D} (h : okS d = true) : gEq d d = some (.bl true) := by
  unfold gEq
  rw [okS.ok h, eqD_self (okS.ok h)]; rfl
theorem gNe_selfS {d : D} (h : okS d = true) : gNe d d = some (.bl false) := by
  unfold gNe
  rw [okS.ok h, eqD_self (okS.ok h)]; rfl
theorem inSs_all {xs : List D} (h : ∀ x ∈ xs, inS x = true) : inSs xs = true := by
  induction xs with
  | nil => rfl
  | cons x xs ih =>
    show (inS x && inSs xs) = true
    rw [h x List.mem_cons_self, ih fun y hy => h y (List.mem_cons_of_mem _ hy)]; rfl
theorem wtSs_all {w : Nat} {xs : List D} (h : ∀ x ∈ xs, wtS x ≤ w) : wtSs xs ≤ xs.length * (w + 1) := by
  induction xs with
  | nil => exact Nat.zero_le _
  | cons x xs ih =>
    have h1 := h x List.mem_cons_self
    have h2 := ih fun y hy => h y (List.mem_cons_of_mem _ hy)
    show wtS x + 1 + wtSs xs ≤ (xs.length + 1) * (w + 1)
    rw [Nat.succ_mul]; omega
/-- a datum of depth at most d, weight at most w -/
def Ts (d w : Nat) (x : D) : Prop := inS x = true ∧ dpD x ≤ d ∧ wtS x ≤ w
theorem Ts.okS {d w : Nat} {x : D} (h : Ts d w x) (hd : d ≤ 64) (hw : w ≤ 200000) : okS x = true := by
  unfold DL.okS
  rw [h.1, decide_eq_true (Nat.le_trans h.2.1 hd), decide_eq_true (Nat.le_trans h.2.2 hw)]; rfl
theorem Ts.mono {d w d' w' : Nat} {x : D} (h : Ts d w x) (hd : d ≤ d') (hw : w ≤ w') : Ts d' w' x := ⟨h.1, by have := h.2.1; omega, by have := h.2.2; omega⟩
theorem ts_lst {d w : Nat} {xs : List D} (h : ∀ x ∈ xs, Ts d w x) : Ts (d + 1) (xs.length * (w + 1)) (.lst xs) :=
  ⟨inSs_all fun x hx => (h x hx).1, Nat.succ_le_succ (dpDs_all fun x hx => (h x hx).2.1), wtSs_all fun x hx => (h x hx).2.2⟩
theorem ts_tup {d w : Nat} {xs : List D} (h : ∀ x ∈ xs, Ts d w x) : Ts (d + 1) (xs.length * (w + 1)) (.tup xs) :=
  ⟨inSs_all fun x hx => (h x hx).1, Nat.succ_le_succ (dpDs_all fun x hx => (h x hx).2.1), wtSs_all fun x hx => (h x hx).2.2⟩
theorem ts_int {i : Int} (h : i.natAbs < 1000000000000000000000000000000000000000000000000000000000000) : Ts 0 201 (.int i) := ⟨decide_eq_true h, Nat.le_refl _, Nat.le_refl _⟩
theorem ts_str {x : Str} (h : okS1 x = true) : Ts 0 61 (.str x) := ⟨h, Nat.le_refl _, Nat.le_refl _⟩
theorem ts_bl {b : Bool} : Ts 0 0 (.bl b) := ⟨rfl, Nat.le_refl _, Nat.le_refl _⟩
theorem ts_non : Ts 0 0 .non := ⟨rfl, Nat.le_refl _, Nat.le_refl _⟩
end DL
namespace Gk15
open PySem PySem.Spec PyProof.Rows L2 DL
def top (i : Nat) : Stmt := PySem.Challenge.pw_everyseam_k15_whole_shifts_in_two_lattic.main.body.getD i (.Pass ⟨0, 0, 0, 0⟩)
abbrev s__law_pen : Stmt := top 34
abbrev s__law_draw : Stmt := top 35
abbrev s__law_pick : Stmt := top 36
abbrev s_is_list : Stmt := top 2
abbrev s_is_integer : Stmt := top 1
abbrev s_is_between : Stmt := top 3
abbrev s_is_cell : Stmt := top 14
abbrev s_need_shifts : Stmt := top 25
abbrev s_common : Stmt := top 19
abbrev s_divisor : Stmt := top 16
abbrev s_with_shift : Stmt := top 21
abbrev s_least_form : Stmt := top 20
abbrev s_lattice : Stmt := top 26
abbrev s_within : Stmt := top 23
abbrev s_is_in : Stmt := top 22
abbrev s_in_lattice : Stmt := top 27
abbrev s_rest_of : Stmt := top 28
abbrev s_size_of : Stmt := top 24
abbrev s_many_classes : Stmt := top 29
abbrev s_line_both : Stmt := top 32
abbrev s_both_of : Stmt := top 31
abbrev s_lattice_both : Stmt := top 30
abbrev s__law_heard : Stmt := top 39
abbrev s__law_refused_right : Stmt := top 40
abbrev s__law_some_shifts : Stmt := top 38
abbrev s__law_reduced : Stmt := top 37
abbrev s_law : Stmt := top 41
end Gk15
namespace Gk15
open PySem PySem.Spec PyProof.Rows L2 DL
noncomputable section
def b__law_pen : M Fl := retM (appM gLst (consM (lcM [1] (seqOfA (slcM (getV 0) (noO) (someO (pureM (.int 63))))) (gSet 1) (yesM) (appM gIntC (consM (getV 1) (nilM)))) (consM (pureM (.int 0)) (consM (pureM (.int 0)) (nilM)))))
def m__law_pen : List D → Res D := runB 2 [] false b__law_pen
def b__law_draw : M Fl := seqM (ifM (truM (bin gGt (ixoM 0 (pureM (.int 2))) (pureM (.int 0)))) (seqM (setM 2 (appM gIntC (consM (ixoM 0 (pureM (.int 2))) (nilM)))) (seqM (setIxM 0 (bin gDivW (getV 2) (getV 1)) (pureM (.int 2))) (retM (bin gMod (appM gIntC (consM (getV 2) (nilM))) (getV 1))))) (nextM)) (seqM (setM 3 (ixoM 0 (pureM (.int 1)))) (seqM (setIxM 0 (bin gAdd (getV 3) (pureM (.int 1))) (pureM (.int 1))) (seqM (setM 4 (bin gAdd (bin gMulA (pureM (.int 61857)) (getV 3)) (pureM (.int 6489)))) (seqM (ifM (truM (bin gNe (ixoM 0 (pureM (.int 0))) (appM gLst (nilM)))) (setM 4 (bin gIx (ixoM 0 (pureM (.int 0))) (bin gMod (appM gIntC (consM (getV 3) (nilM))) (appM gLen (consM (ixoM 0 (pureM (.int 0))) (nilM)))))) (nextM)) (seqM (ifM (andT (truM (bin gLt (getV 3) (appM gLen (consM (ixoM 0 (pureM (.int 0))) (nilM))))) (truM (bin gGe (appM gAbs (consM (getV 4) (nilM))) (bin gPow (pureM (.int 10)) (pureM (.int 18)))))) (seqM (setM 2 (bin gAdd (bin gMulA (pureM (.int 2)) (bin gSubI (appM gAbs (consM (getV 4) (nilM))) (bin gPow (pureM (.int 10)) (pureM (.int 18))))) (appM gIntC (consM (bin gLt (getV 4) (pureM (.int 0))) (nilM))))) (seqM (setIxM 0 (bin gDivW (appM gIntC (consM (getV 2) (nilM))) (getV 1)) (pureM (.int 2))) (retM (bin gMod (appM gIntC (consM (getV 2) (nilM))) (getV 1))))) (nextM)) (seqM (setM 5 (bin gMod (appM gIntC (consM (bin gPow (bin gAdd (bin gAdd (bin gMod (appM gIntC (consM (getV 4) (nilM))) (pureM (.int 2147483587))) (bin gMulA (pureM (.int 46653)) (getV 3))) (pureM (.int 3447))) (pureM (.int 5))) (nilM))) (pureM (.int 2147483563)))) (seqM (setM 5 (bin gMod (appM gIntC (consM (bin gPow (bin gAdd (bin gAdd (bin gMulA (getV 5) (bin gAdd (bin gMulA (pureM (.int 2)) (getV 3)) (pureM (.int 6489)))) (bin gMulA (bin gMulA (pureM (.int 91811)) (getV 3)) (getV 3))) (pureM (.int 46653))) (pureM (.int 3))) (nilM))) (pureM (.int 2147483549)))) (retM (bin gMod (appM gIntC (consM (bin gDivW (getV 5) (pureM (.int 32))) (nilM))) (getV 1))))))))))
def m__law_draw : List D → Res D := runB 6 [.lst .fz] false b__law_draw
def b__law_pick : M Fl := retM (bin gIx (getV 1) (callP 1 [] m__law_draw 0 (consM (appM gLen (consM (getV 1) (nilM))) (nilM))))
def m__law_pick : List D → Res D := runB 2 [.lst .fz] false b__law_pick
def b_is_list : M Fl := retM (un1 (isi2D "list" "tuple") (getV 0))
def m_is_list : List D → Res D := runB 1 [] false b_is_list
def b_is_integer : M Fl := retM (andM (un1 (isiD "int") (getV 0)) (notM (un1 (isiD "bool") (getV 0))))
def m_is_integer : List D → Res D := runB 1 [] false b_is_integer
def b_is_between : M Fl := retM (andM (callM 1 [] m_is_integer (consM (getV 0) (nilM))) (chainM (gInt (fun i j => decide (i ≤ j))) (gInt (fun i j => decide (i ≤ j))) (getV 1) (getV 0) (getV 2)))
def m_is_between : List D → Res D := runB 3 [] false b_is_between
def b_is_cell : M Fl := seqM (ifM (orT (notT (truM (un1 (isiD "tuple") (getV 0)))) (truM (bin gNe (appM gLen (consM (getV 0) (nilM))) (pureM (.int 2))))) (retM (pureM (.bl false))) (nextM)) (retM (appM gAll (consM (lcM [1] (seqOfA (getV 0)) (gSet 1) (yesM) (callM 3 [] m_is_between (consM (getV 1) (consM (bin gSubI (pureM (.int 0)) (pureM (.int 1000000000000))) (consM (pureM (.int 1000000000000)) (nilM)))))) (nilM))))
def m_is_cell : List D → Res D := runB 2 [] false b_is_cell
def b_need_shifts : M Fl := ifM (orT (notT (truM (callM 1 [] m_is_list (consM (getV 1) (nilM))))) (orT (truM (bin gGt (appM gLen (consM (getV 1) (nilM))) (pureM (.int 200)))) (notT (truM (appM gAll (consM (lcM [2] (seqOfA (getV 1)) (gSet 2) (yesM) (callM 1 [] m_is_cell (consM (getV 2) (nilM)))) (nilM))))))) (raiseM "BadValue" ["part"] (consM (getV 0) (nilM))) (nextM)
def m_need_shifts : List D → Res D := runB 3 [] true b_need_shifts
def l0_common : M Fl := seqM (setM 6 (bin gDivW (getV 0) (getV 1))) (seqM (parM 0 1 (consM (getV 1) (consM (bin gSubI (getV 0) (bin gMulA (getV 6) (getV 1))) (nilM)))) (asgM (gUnp 4 (gsCons (gSet 2) (gsCons (gSet 3) (gsCons (gSet 4) (gsCons (gSet 5) (gsNil)))))) (appM gTup (consM (getV 4) (consM (getV 5) (consM (bin gSubI (getV 2) (bin gMulA (getV 6) (getV 4))) (consM (bin gSubI (getV 3) (bin gMulA (getV 6) (getV 5))) (nilM))))))))
def b_common : M Fl := seqM (asgM (gUnp 4 (gsCons (gSet 2) (gsCons (gSet 3) (gsCons (gSet 4) (gsCons (gSet 5) (gsNil)))))) (appM gTup (consM (pureM (.int 1)) (consM (pureM (.int 0)) (consM (pureM (.int 0)) (consM (pureM (.int 1)) (nilM))))))) (seqM (whileM (truM (bin gGt (getV 1) (pureM (.int 0)))) l0_common) (retM (appM gTup (consM (getV 0) (consM (getV 2) (consM (getV 3) (nilM)))))))
def m_common : List D → Res D := runB 7 [] false b_common
def l0_divisor : M Fl := parM 0 1 (consM (getV 1) (consM (bin gMod (getV 0) (getV 1)) (nilM)))
def b_divisor : M Fl := seqM (whileM (truM (bin gGt (getV 1) (pureM (.int 0)))) l0_divisor) (retM (getV 0))
def m_divisor : List D → Res D := runB 2 [] false b_divisor
def b_with_shift : M Fl := seqM (ifM (truM (bin gLt (bin gIx (getV 2) (pureM (.int 0))) (pureM (.int 0)))) (setM 2 (appM gTup (consM (bin gSubI (pureM (.int 0)) (bin gIx (getV 2) (pureM (.int 0)))) (consM (bin gSubI (pureM (.int 0)) (bin gIx (getV 2) (pureM (.int 1)))) (nilM))))) (nextM)) (seqM (ifM (truM (bin gEq (bin gIx (getV 2) (pureM (.int 0))) (pureM (.int 0)))) (retM (appM gTup (consM (getV 0) (consM (ifM (truM (bin gGt (getV 1) (pureM (.int 0)))) (callM 2 [] m_divisor (consM (getV 1) (consM (appM gAbs (consM (bin gIx (getV 2) (pureM (.int 1))) (nilM))) (nilM)))) (appM gAbs (consM (bin gIx (getV 2) (pureM (.int 1))) (nilM)))) (nilM))))) (nextM)) (seqM (ifM (truM (bin gEq (bin gIx (getV 0) (pureM (.int 0))) (pureM (.int 0)))) (retM (appM gTup (consM (getV 2) (consM (getV 1) (nilM))))) (nextM)) (seqM (asgM (gUnp 3 (gsCons (gSet 3) (gsCons (gSet 4) (gsCons (gSet 5) (gsNil))))) (callM 2 [] m_common (consM (bin gIx (getV 0) (pureM (.int 0))) (consM (bin gIx (getV 2) (pureM (.int 0))) (nilM))))) (seqM (setM 6 (appM gTup (consM (getV 3) (consM (bin gAdd (bin gMulA (getV 4) (bin gIx (getV 0) (pureM (.int 1)))) (bin gMulA (getV 5) (bin gIx (getV 2) (pureM (.int 1))))) (nilM))))) (seqM (setM 7 (bin gSubI (bin gMulA (bin gDivW (bin gIx (getV 2) (pureM (.int 0))) (getV 3)) (bin gIx (getV 0) (pureM (.int 1)))) (bin gMulA (bin gDivW (bin gIx (getV 0) (pureM (.int 0))) (getV 3)) (bin gIx (getV 2) (pureM (.int 1)))))) (seqM (setM 1 (callM 2 [] m_divisor (consM (appM gMax2 (consM (getV 1) (consM (appM gAbs (consM (getV 7) (nilM))) (nilM)))) (consM (appM gMin2 (consM (getV 1) (consM (appM gAbs (consM (getV 7) (nilM))) (nilM)))) (nilM))))) (retM (appM gTup (consM (getV 6) (consM (getV 1) (nilM)))))))))))
def m_with_shift : List D → Res D := runB 8 [] false b_with_shift
def l0_least_form : M Fl := asgM (gUnp 2 (gsCons (gSet 1) (gsCons (gSet 2) (gsNil)))) (callM 3 [] m_with_shift (consM (getV 1) (consM (getV 2) (consM (appM gTup (consM (getV 3) (consM (getV 4) (nilM)))) (nilM)))))
def b_least_form : M Fl := seqM (asgM (gUnp 2 (gsCons (gSet 1) (gsCons (gSet 2) (gsNil)))) (appM gTup (consM (appM gTup (consM (pureM (.int 0)) (consM (pureM (.int 0)) (nilM)))) (consM (pureM (.int 0)) (nilM))))) (seqM (forS (seqOfA (getV 0)) (gUnp 2 (gsCons (gSet 3) (gsCons (gSet 4) (gsNil)))) l0_least_form) (seqM (ifM (truM (bin gEq (bin gIx (getV 1) (pureM (.int 0))) (pureM (.int 0)))) (retM (ifM (truM (bin gGt (getV 2) (pureM (.int 0)))) (appM gTup (consM (appM gTup (consM (pureM (.int 0)) (consM (getV 2) (nilM)))) (nilM))) (appM gTup (nilM)))) (nextM)) (seqM (ifM (truM (bin gEq (getV 2) (pureM (.int 0)))) (retM (appM gTup (consM (getV 1) (nilM)))) (nextM)) (retM (appM gTup (consM (appM gTup (consM (bin gIx (getV 1) (pureM (.int 0))) (consM (bin gMod (bin gIx (getV 1) (pureM (.int 1))) (getV 2)) (nilM)))) (consM (appM gTup (consM (pureM (.int 0)) (consM (getV 2) (nilM)))) (nilM))))))))
def m_least_form : List D → Res D := runB 5 [] false b_least_form
def b_lattice : M Fl := seqM (dropM (callM 2 [] m_need_shifts (consM (pureM (.str "shifts")) (consM (getV 0) (nilM))))) (retM (callM 1 [] m_least_form (consM (getV 0) (nilM))))
def m_lattice : List D → Res D := runB 1 [] false b_lattice
def l0_within : M Fl := seqM (ifM (truM (bin gGt (getV 4) (pureM (.int 0)))) (setM 6 (bin gDivW (getV 2) (getV 4))) (setM 6 (bin gDivW (getV 3) (getV 5)))) (parM 2 3 (consM (bin gSubI (getV 2) (bin gMulA (getV 6) (getV 4))) (consM (bin gSubI (getV 3) (bin gMulA (getV 6) (getV 5))) (nilM))))
def b_within : M Fl := seqM (asgM (gUnp 2 (gsCons (gSet 2) (gsCons (gSet 3) (gsNil)))) (getV 1)) (seqM (forS (seqOfA (getV 0)) (gUnp 2 (gsCons (gSet 4) (gsCons (gSet 5) (gsNil)))) l0_within) (retM (appM gTup (consM (getV 2) (consM (getV 3) (nilM))))))
def m_within : List D → Res D := runB 7 [] false b_within
def b_is_in : M Fl := retM (bin gEq (callM 2 [] m_within (consM (getV 0) (consM (getV 1) (nilM)))) (appM gTup (consM (pureM (.int 0)) (consM (pureM (.int 0)) (nilM)))))
def m_is_in : List D → Res D := runB 2 [] false b_is_in
def b_in_lattice : M Fl := seqM (dropM (callM 2 [] m_need_shifts (consM (pureM (.str "shifts")) (consM (getV 0) (nilM))))) (seqM (ifM (notT (truM (callM 1 [] m_is_cell (consM (getV 1) (nilM))))) (raiseM "BadValue" ["part"] (consM (pureM (.str "shift")) (nilM))) (nextM)) (retM (callM 2 [] m_is_in (consM (callM 1 [] m_least_form (consM (getV 0) (nilM))) (consM (getV 1) (nilM))))))
def m_in_lattice : List D → Res D := runB 2 [] false b_in_lattice
def b_rest_of : M Fl := seqM (dropM (callM 2 [] m_need_shifts (consM (pureM (.str "shifts")) (consM (getV 0) (nilM))))) (seqM (ifM (notT (truM (callM 1 [] m_is_cell (consM (getV 1) (nilM))))) (raiseM "BadValue" ["part"] (consM (pureM (.str "shift")) (nilM))) (nextM)) (retM (callM 2 [] m_within (consM (callM 1 [] m_least_form (consM (getV 0) (nilM))) (consM (getV 1) (nilM))))))
def m_rest_of : List D → Res D := runB 2 [] false b_rest_of
def b_size_of : M Fl := retM (ifM (truM (bin gEq (appM gLen (consM (getV 0) (nilM))) (pureM (.int 2)))) (bin gMulA (bin gIx (bin gIx (getV 0) (pureM (.int 0))) (pureM (.int 0))) (bin gIx (bin gIx (getV 0) (pureM (.int 1))) (pureM (.int 1)))) (pureM .non))
def m_size_of : List D → Res D := runB 1 [] false b_size_of
def b_many_classes : M Fl := seqM (dropM (callM 2 [] m_need_shifts (consM (pureM (.str "shifts")) (consM (getV 0) (nilM))))) (retM (callM 1 [] m_size_of (consM (callM 1 [] m_least_form (consM (getV 0) (nilM))) (nilM))))
def m_many_classes : List D → Res D := runB 1 [] false b_many_classes
def t0_line_both : M Fl := retM (callM 1 [] m_least_form (consM (appM gLst (consM (appM gTup (consM (bin gMulA (getV 4) (getV 10)) (consM (bin gMulA (getV 5) (getV 10)) (nilM)))) (nilM))) (nilM)))
def t1_line_both : M Fl := seqM (setM 10 (bin gDivW (getV 9) (callM 2 [] m_divisor (consM (getV 8) (consM (getV 9) (nilM)))))) (t0_line_both)
def t2_line_both : M Fl := seqM (asgM (gUnp 2 (gsCons (gSet 8) (gsCons (gSet 9) (gsNil)))) (ifM (truM (bin gNe (getV 4) (pureM (.int 0)))) (appM gTup (consM (appM gAbs (consM (getV 4) (nilM))) (consM (appM gAbs (consM (getV 6) (nilM))) (nilM)))) (appM gTup (consM (appM gAbs (consM (getV 5) (nilM))) (consM (appM gAbs (consM (getV 7) (nilM))) (nilM)))))) (t1_line_both)
def t3_line_both : M Fl := seqM (ifM (truM (bin gNe (bin gMulA (getV 4) (getV 7)) (bin gMulA (getV 5) (getV 6)))) (retM (appM gTup (nilM))) (nextM)) (t2_line_both)
def t4_line_both : M Fl := retM (callM 1 [] m_least_form (consM (appM gLst (consM (appM gTup (consM (bin gMulA (getV 4) (getV 10)) (consM (bin gMulA (getV 5) (getV 10)) (nilM)))) (nilM))) (nilM)))
def t5_line_both : M Fl := seqM (setM 10 (bin gMulA (getV 10) (bin gDivW (getV 13) (callM 2 [] m_divisor (consM (getV 13) (consM (getV 14) (nilM))))))) (t4_line_both)
def t6_line_both : M Fl := seqM (setM 14 (bin gMod (bin gSubI (bin gMulA (getV 10) (getV 5)) (bin gMulA (bin gDivW (bin gMulA (getV 10) (getV 4)) (getV 6)) (getV 11))) (getV 13))) (t5_line_both)
def t7_line_both : M Fl := seqM (setM 10 (bin gDivW (getV 6) (callM 2 [] m_divisor (consM (getV 6) (consM (bin gMod (getV 4) (getV 6)) (nilM)))))) (t6_line_both)
def t8_line_both : M Fl := seqM (asgM (gUnp 2 (gsCons (gUnp 2 (gsCons (gSet 6) (gsCons (gSet 11) (gsNil)))) (gsCons (gUnp 2 (gsCons (gSet 12) (gsCons (gSet 13) (gsNil)))) (gsNil)))) (getV 3)) (t7_line_both)
def t9_line_both : M Fl := seqM (ifM (truM (bin gEq (appM gLen (consM (getV 3) (nilM))) (pureM (.int 1)))) (seqM (asgM (gUnp 2 (gsCons (gSet 6) (gsCons (gSet 7) (gsNil)))) (bin gIx (getV 3) (pureM (.int 0)))) (t3_line_both)) (nextM)) (t8_line_both)
def t10_line_both : M Fl := seqM (asgM (gUnp 2 (gsCons (gSet 4) (gsCons (gSet 5) (gsNil)))) (bin gIx (getV 2) (pureM (.int 0)))) (t9_line_both)
def t11_line_both : M Fl := seqM (ifM (truM (bin gEq (getV 2) (appM gTup (nilM)))) (retM (appM gTup (nilM))) (nextM)) (t10_line_both)
def b_line_both : M Fl := seqM (asgM (gUnp 2 (gsCons (gSet 2) (gsCons (gSet 3) (gsNil)))) (ifM (truM (bin gLe (appM gLen (consM (getV 0) (nilM))) (appM gLen (consM (getV 1) (nilM))))) (appM gTup (consM (getV 0) (consM (getV 1) (nilM)))) (appM gTup (consM (getV 1) (consM (getV 0) (nilM)))))) (t11_line_both)
def m_line_both : List D → Res D := runB 15 [] false b_line_both
def t0_both_of : M Fl := retM (appM gTup (consM (appM gTup (consM (getV 14) (consM (bin gMod (getV 17) (getV 12)) (nilM)))) (consM (appM gTup (consM (pureM (.int 0)) (consM (getV 12) (nilM)))) (nilM))))
def t1_both_of : M Fl := seqM (setM 17 (bin gAdd (getV 15) (bin gMulA (bin gMulA (bin gDivW (bin gSubI (getV 16) (getV 15)) (getV 9)) (getV 10)) (getV 5)))) (t0_both_of)
def t2_both_of : M Fl := seqM (parM 15 16 (consM (bin gMulA (bin gDivW (getV 14) (getV 2)) (getV 3)) (consM (bin gMulA (bin gDivW (getV 14) (getV 6)) (getV 7)) (nilM)))) (t1_both_of)
def t3_both_of : M Fl := seqM (setM 14 (bin gMulA (getV 11) (bin gDivW (getV 9) (callM 2 [] m_divisor (consM (getV 9) (consM (getV 13) (nilM))))))) (t2_both_of)
def t4_both_of : M Fl := seqM (setM 13 (bin gMod (bin gSubI (bin gMulA (bin gDivW (getV 11) (getV 2)) (getV 3)) (bin gMulA (bin gDivW (getV 11) (getV 6)) (getV 7))) (getV 9))) (t3_both_of)
def t5_both_of : M Fl := seqM (parM 11 12 (consM (bin gDivW (bin gMulA (getV 2) (getV 6)) (callM 2 [] m_divisor (consM (getV 2) (consM (getV 6) (nilM))))) (consM (bin gDivW (bin gMulA (getV 5) (getV 8)) (getV 9)) (nilM)))) (t4_both_of)
def t6_both_of : M Fl := seqM (asgM (gUnp 3 (gsCons (gSet 9) (gsCons (gSet 10) (gsCons (gSet 4) (gsNil))))) (callM 2 [] m_common (consM (getV 5) (consM (getV 8) (nilM))))) (t5_both_of)
def t7_both_of : M Fl := seqM (asgM (gUnp 2 (gsCons (gUnp 2 (gsCons (gSet 6) (gsCons (gSet 7) (gsNil)))) (gsCons (gUnp 2 (gsCons (gSet 4) (gsCons (gSet 8) (gsNil)))) (gsNil)))) (getV 1)) (t6_both_of)
def t8_both_of : M Fl := seqM (asgM (gUnp 2 (gsCons (gUnp 2 (gsCons (gSet 2) (gsCons (gSet 3) (gsNil)))) (gsCons (gUnp 2 (gsCons (gSet 4) (gsCons (gSet 5) (gsNil)))) (gsNil)))) (getV 0)) (t7_both_of)
def b_both_of : M Fl := seqM (ifM (orT (truM (bin gLt (appM gLen (consM (getV 0) (nilM))) (pureM (.int 2)))) (truM (bin gLt (appM gLen (consM (getV 1) (nilM))) (pureM (.int 2))))) (retM (callM 2 [] m_line_both (consM (getV 0) (consM (getV 1) (nilM))))) (nextM)) (t8_both_of)
def m_both_of : List D → Res D := runB 18 [] false b_both_of
def t0_lattice_both : M Fl := retM (callM 2 [] m_both_of (consM (callM 1 [] m_least_form (consM (getV 0) (nilM))) (consM (callM 1 [] m_least_form (consM (getV 1) (nilM))) (nilM))))
def t1_lattice_both : M Fl := seqM (dropM (callM 2 [] m_need_shifts (consM (pureM (.str "other")) (consM (getV 1) (nilM))))) (t0_lattice_both)
def b_lattice_both : M Fl := seqM (dropM (callM 2 [] m_need_shifts (consM (pureM (.str "one")) (consM (getV 0) (nilM))))) (t1_lattice_both)
def m_lattice_both : List D → Res D := runB 2 [] false b_lattice_both
def t0__law_heard (fa : Addr) (F0 : Hp) (g : List D → Res D) : M Fl := retM (ifM (truM (un1 (isiE ["BadValue", "BadNumber", "BadPattern", "Misfit", "BadText", "TooMany"] [("BadValue", ["SeamError"]), ("BadNumber", ["SeamError"]), ("BadPattern", ["SeamError"]), ("Misfit", ["SeamError"]), ("BadText", ["SeamError"]), ("TooMany", ["SeamError"])] "TooMany") (getV 1))) (appM gTup (consM (pureM (.str "many")) (consM (un1 (gFldX ["BadValue", "BadNumber", "BadPattern", "Misfit", "BadText", "TooMany"] "what") (getV 1)) (consM (un1 (gFldX ["BadValue", "BadNumber", "BadPattern", "Misfit", "BadText", "TooMany"] "most") (getV 1)) (nilM))))) (appM gTup (consM (pureM (.str "other")) (nilM))))
def t1__law_heard (fa : Addr) (F0 : Hp) (g : List D → Res D) : M Fl := seqM (ifM (truM (un1 (isiE ["BadValue", "BadNumber", "BadPattern", "Misfit", "BadText", "TooMany"] [("BadValue", ["SeamError"]), ("BadNumber", ["SeamError"]), ("BadPattern", ["SeamError"]), ("Misfit", ["SeamError"]), ("BadText", ["SeamError"]), ("TooMany", ["SeamError"])] "BadText") (getV 1))) (retM (appM gTup (consM (pureM (.str "text")) (consM (un1 (gFldX ["BadValue", "BadNumber", "BadPattern", "Misfit", "BadText", "TooMany"] "line") (getV 1)) (consM (un1 (gFldX ["BadValue", "BadNumber", "BadPattern", "Misfit", "BadText", "TooMany"] "word") (getV 1)) (nilM)))))) (nextM)) ((t0__law_heard fa F0 g))
def t2__law_heard (fa : Addr) (F0 : Hp) (g : List D → Res D) : M Fl := seqM (ifM (truM (un1 (isiE ["BadValue", "BadNumber", "BadPattern", "Misfit", "BadText", "TooMany"] [("BadValue", ["SeamError"]), ("BadNumber", ["SeamError"]), ("BadPattern", ["SeamError"]), ("Misfit", ["SeamError"]), ("BadText", ["SeamError"]), ("TooMany", ["SeamError"])] "Misfit") (getV 1))) (retM (appM gTup (consM (pureM (.str "fit")) (consM (un1 (gFldX ["BadValue", "BadNumber", "BadPattern", "Misfit", "BadText", "TooMany"] "part") (getV 1)) (nilM))))) (nextM)) ((t1__law_heard fa F0 g))
def t3__law_heard (fa : Addr) (F0 : Hp) (g : List D → Res D) : M Fl := seqM (ifM (truM (un1 (isiE ["BadValue", "BadNumber", "BadPattern", "Misfit", "BadText", "TooMany"] [("BadValue", ["SeamError"]), ("BadNumber", ["SeamError"]), ("BadPattern", ["SeamError"]), ("Misfit", ["SeamError"]), ("BadText", ["SeamError"]), ("TooMany", ["SeamError"])] "BadPattern") (getV 1))) (retM (appM gTup (consM (pureM (.str "pattern")) (consM (un1 (gFldX ["BadValue", "BadNumber", "BadPattern", "Misfit", "BadText", "TooMany"] "part") (getV 1)) (nilM))))) (nextM)) ((t2__law_heard fa F0 g))
def t4__law_heard (fa : Addr) (F0 : Hp) (g : List D → Res D) : M Fl := seqM (ifM (truM (un1 (isiE ["BadValue", "BadNumber", "BadPattern", "Misfit", "BadText", "TooMany"] [("BadValue", ["SeamError"]), ("BadNumber", ["SeamError"]), ("BadPattern", ["SeamError"]), ("Misfit", ["SeamError"]), ("BadText", ["SeamError"]), ("TooMany", ["SeamError"])] "BadNumber") (getV 1))) (retM (appM gTup (consM (pureM (.str "number")) (consM (un1 (gFldX ["BadValue", "BadNumber", "BadPattern", "Misfit", "BadText", "TooMany"] "part") (getV 1)) (nilM))))) (nextM)) ((t3__law_heard fa F0 g))
def t5__law_heard (fa : Addr) (F0 : Hp) (g : List D → Res D) : M Fl := seqM (ifM (truM (un1 (isiE ["BadValue", "BadNumber", "BadPattern", "Misfit", "BadText", "TooMany"] [("BadValue", ["SeamError"]), ("BadNumber", ["SeamError"]), ("BadPattern", ["SeamError"]), ("Misfit", ["SeamError"]), ("BadText", ["SeamError"]), ("TooMany", ["SeamError"])] "BadValue") (getV 1))) (retM (appM gTup (consM (pureM (.str "value")) (consM (un1 (gFldX ["BadValue", "BadNumber", "BadPattern", "Misfit", "BadText", "TooMany"] "part") (getV 1)) (nilM))))) (nextM)) ((t4__law_heard fa F0 g))
def t6__law_heard (fa : Addr) (F0 : Hp) (g : List D → Res D) : M Fl := seqM (ifM (truM (bin gIsN (getV 1) (pureM .non))) (retM (pureM .non)) (nextM)) ((t5__law_heard fa F0 g))
def t7__law_heard (fa : Addr) (F0 : Hp) (g : List D → Res D) : M Fl := seqM (tryM 2 1 ["BadValue", "BadNumber", "BadPattern", "Misfit", "BadText", "TooMany"] (dropM (askM 0 fa F0 0 g (nilM)))) ((t6__law_heard fa F0 g))
def b__law_heard (fa : Addr) (F0 : Hp) (g : List D → Res D) : M Fl := seqM (setM 1 (pureM .non)) ((t7__law_heard fa F0 g))
def m__law_heard (fa : Addr) (F0 : Hp) (g : List D → Res D) : List D → Res D := runB 3 [] false (b__law_heard fa F0 g)
def t0__law_refused_right : M Fl := ifM (truM (bin gNe (getV 4) (appM gLst (consM (appM gTup (consM (pureM (.str "value")) (consM (pureM (.str "shift")) (nilM)))) (consM (appM gTup (consM (pureM (.str "value")) (consM (pureM (.str "shift")) (nilM)))) (consM (appM gTup (consM (pureM (.str "value")) (consM (pureM (.str "one")) (nilM)))) (consM (appM gTup (consM (pureM (.str "value")) (consM (pureM (.str "other")) (nilM)))) (nilM)))))))) (retM (pureM (.bl false))) (nextM)
def t1__law_refused_right : M Fl := seqM (setM 4 (bin gAdd (getV 4) (appM gLst (consM (callHM 0 m__law_heard (fun ρ => lamG (callM 2 [] m_lattice_both (consM (getV 2) (consM (getV 2) (nilM)))) (maskR [false, true, true, true, true] ρ) [.int 0, .int 0]) (nilM)) (consM (callHM 0 m__law_heard (fun ρ => lamG (callM 2 [] m_lattice_both (consM (appM gLst (nilM)) (consM (getV 2) (nilM)))) (maskR [false, true, true, true, true] ρ) [.int 0, .int 0, .int 0]) (nilM)) (nilM)))))) (t0__law_refused_right)
def t2__law_refused_right : M Fl := seqM (setM 4 (appM gLst (consM (callHM 0 m__law_heard (fun ρ => lamG (callM 2 [] m_in_lattice (consM (appM gLst (nilM)) (consM (getV 3) (nilM)))) (maskR [false, true, true, true, true] ρ) []) (nilM)) (consM (callHM 0 m__law_heard (fun ρ => lamG (callM 2 [] m_rest_of (consM (appM gLst (consM (appM gTup (consM (pureM (.int 1)) (consM (pureM (.int 0)) (nilM)))) (nilM))) (consM (getV 3) (nilM)))) (maskR [false, true, true, true, true] ρ) [.int 0]) (nilM)) (nilM))))) (t1__law_refused_right)
def t3__law_refused_right : M Fl := seqM (ifM (truM (bin gNe (getV 4) (bin gMulA (appM gLst (consM (appM gTup (consM (pureM (.str "value")) (consM (pureM (.str "shifts")) (nilM)))) (nilM))) (pureM (.int 4))))) (retM (pureM (.bl false))) (nextM)) (t2__law_refused_right)
def t4__law_refused_right : M Fl := seqM (setM 4 (bin gAdd (getV 4) (appM gLst (consM (callHM 0 m__law_heard (fun ρ => lamG (callM 2 [] m_rest_of (consM (getV 2) (consM (getV 3) (nilM)))) (maskR [false, true, true, true, true] ρ) [.int 0, .int 0]) (nilM)) (consM (callHM 0 m__law_heard (fun ρ => lamG (callM 1 [] m_many_classes (consM (getV 2) (nilM))) (maskR [false, true, true, true, true] ρ) [.int 0, .int 0, .int 0]) (nilM)) (nilM)))))) (t3__law_refused_right)
def t5__law_refused_right : M Fl := seqM (setM 4 (appM gLst (consM (callHM 0 m__law_heard (fun ρ => lamG (callM 1 [] m_lattice (consM (getV 2) (nilM))) (maskR [false, true, true, true, true] ρ) []) (nilM)) (consM (callHM 0 m__law_heard (fun ρ => lamG (callM 2 [] m_in_lattice (consM (getV 2) (consM (getV 3) (nilM)))) (maskR [false, true, true, true, true] ρ) [.int 0]) (nilM)) (nilM))))) (t4__law_refused_right)
def t6__law_refused_right : M Fl := seqM (setM 3 (callP 1 [] m__law_pick 0 (consM (appM gLst (consM (pureM .non) (consM (pureM (.int 5)) (consM (appM gTup (consM (pureM (.int 0)) (nilM))) (consM (appM gLst (consM (pureM (.int 0)) (consM (pureM (.int 0)) (nilM)))) (consM (appM gTup (consM (pureM (.bl true)) (consM (pureM (.int 0)) (nilM)))) (consM (appM gTup (consM (pureM (.int 0)) (consM (pureM (.int 0)) (consM (pureM (.int 0)) (nilM))))) (consM (pureM (.str "ab")) (consM (appM gTup (consM (pureM (.int 0)) (consM (bin gSubI (bin gSubI (pureM (.int 0)) (bin gPow (pureM (.int 10)) (pureM (.int 12)))) (pureM (.int 1))) (nilM)))) (nilM)))))))))) (nilM)))) (t5__law_refused_right)
def l7__law_refused_right : M Fl := seqM (setM 2 (callP 1 [] m__law_pick 0 (consM (appM gLst (consM (pureM .non) (consM (pureM (.int 5)) (consM (pureM (.str "ab")) (consM (pureM (.dK [])) (consM (appM gLst (consM (pureM .non) (nilM))) (consM (appM gLst (consM (appM gTup (consM (pureM (.int 0)) (nilM))) (nilM))) (consM (appM gLst (consM (appM gTup (consM (pureM (.int 0)) (consM (pureM (.int 0)) (consM (pureM (.int 0)) (nilM))))) (nilM))) (consM (appM gLst (consM (appM gLst (consM (pureM (.int 0)) (consM (pureM (.int 0)) (nilM)))) (nilM))) (consM (appM gLst (consM (appM gTup (consM (pureM (.bl true)) (consM (pureM (.int 0)) (nilM)))) (nilM))) (consM (appM gLst (consM (appM gTup (consM (pureM (.int 0)) (consM (pureM (.str "1")) (nilM)))) (nilM))) (consM (appM gLst (consM (appM gTup (consM (pureM (.int 0)) (consM (pureM (.int 0)) (nilM)))) (consM (pureM (.int 5)) (nilM)))) (consM (bin gMulA (appM gLst (consM (appM gTup (consM (pureM (.int 0)) (consM (pureM (.int 0)) (nilM)))) (nilM))) (pureM (.int 201))) (consM (appM gLst (consM (appM gTup (consM (bin gAdd (bin gPow (pureM (.int 10)) (pureM (.int 12))) (pureM (.int 1))) (consM (pureM (.int 0)) (nilM)))) (nilM))) (nilM))))))))))))))) (nilM)))) (t6__law_refused_right)
def b__law_refused_right : M Fl := seqM (forS (ofArgs rng1 (consM (pureM (.int 3)) (nilM))) (gSet 1) l7__law_refused_right) (retM (bin gEq (callM 1 [] m_lattice (consM (bin gMulA (appM gLst (consM (appM gTup (consM (pureM (.int 2)) (consM (pureM (.int 0)) (nilM)))) (nilM))) (pureM (.int 200))) (nilM))) (appM gTup (consM (appM gTup (consM (pureM (.int 2)) (consM (pureM (.int 0)) (nilM)))) (nilM)))))
def m__law_refused_right : List D → Res D := runB 5 [.lst .fz] false b__law_refused_right
def b__law_some_shifts : M Fl := retM (lcM [1] (ofArgs rng1 (consM (callP 1 [] m__law_draw 0 (consM (pureM (.int 4)) (nilM))) (nilM))) (gSet 1) (yesM) (appM gTup (consM (bin gSubI (callP 1 [] m__law_draw 0 (consM (pureM (.int 9)) (nilM))) (pureM (.int 4))) (consM (bin gSubI (callP 1 [] m__law_draw 0 (consM (pureM (.int 9)) (nilM))) (pureM (.int 4))) (nilM)))))
def m__law_some_shifts : List D → Res D := runB 2 [.lst .fz] false b__law_some_shifts
def l0__law_reduced : M Fl := seqM (setM 6 (ifM (truM (bin gGt (getV 4) (pureM (.int 0)))) (bin gDivW (getV 2) (getV 4)) (bin gDivW (getV 3) (getV 5)))) (parM 2 3 (consM (bin gSubI (getV 2) (bin gMulA (getV 6) (getV 4))) (consM (bin gSubI (getV 3) (bin gMulA (getV 6) (getV 5))) (nilM))))
def b__law_reduced : M Fl := seqM (asgM (gUnp 2 (gsCons (gSet 2) (gsCons (gSet 3) (gsNil)))) (getV 1)) (seqM (forS (seqOfA (getV 0)) (gUnp 2 (gsCons (gSet 4) (gsCons (gSet 5) (gsNil)))) l0__law_reduced) (retM (appM gTup (consM (getV 2) (consM (getV 3) (nilM))))))
def m__law_reduced : List D → Res D := runB 7 [] false b__law_reduced
def t0_law : M Fl := ifM (truM (bin gNe (bin gEq (callM 2 [] m__law_reduced (consM (getV 5) (consM (appM gTup (consM (getV 9) (consM (getV 10) (nilM)))) (nilM)))) (appM gTup (consM (pureM (.int 0)) (consM (pureM (.int 0)) (nilM))))) (getV 11))) (retM (pureM (.bl false))) (nextM)
def t1_law : M Fl := seqM (setM 11 (andM (bin gEq (callM 2 [] m__law_reduced (consM (bin gIx (getV 6) (pureM (.int 0))) (consM (appM gTup (consM (getV 9) (consM (getV 10) (nilM)))) (nilM)))) (appM gTup (consM (pureM (.int 0)) (consM (pureM (.int 0)) (nilM))))) (bin gEq (callM 2 [] m__law_reduced (consM (bin gIx (getV 6) (pureM (.int 1))) (consM (appM gTup (consM (getV 9) (consM (getV 10) (nilM)))) (nilM)))) (appM gTup (consM (pureM (.int 0)) (consM (pureM (.int 0)) (nilM))))))) (t0_law)
def l2_law : M Fl := seqM (parM 9 10 (consM (bin gSubI (callP 1 [] m__law_draw 1 (consM (bin gMulA (pureM (.int 2)) (getV 7)) (nilM))) (getV 7)) (consM (bin gSubI (callP 1 [] m__law_draw 1 (consM (bin gMulA (pureM (.int 2)) (getV 7)) (nilM))) (getV 7)) (nilM)))) (t1_law)
def l3_law : M Fl := seqM (setM 11 (andM (bin gEq (callM 2 [] m__law_reduced (consM (bin gIx (getV 6) (pureM (.int 0))) (consM (appM gTup (consM (getV 9) (consM (getV 10) (nilM)))) (nilM)))) (appM gTup (consM (pureM (.int 0)) (consM (pureM (.int 0)) (nilM))))) (bin gEq (callM 2 [] m__law_reduced (consM (bin gIx (getV 6) (pureM (.int 1))) (consM (appM gTup (consM (getV 9) (consM (getV 10) (nilM)))) (nilM)))) (appM gTup (consM (pureM (.int 0)) (consM (pureM (.int 0)) (nilM))))))) (ifM (truM (bin gNe (bin gEq (callM 2 [] m__law_reduced (consM (getV 5) (consM (appM gTup (consM (getV 9) (consM (getV 10) (nilM)))) (nilM)))) (appM gTup (consM (pureM (.int 0)) (consM (pureM (.int 0)) (nilM))))) (getV 11))) (retM (pureM (.bl false))) (nextM))
def l4_law : M Fl := forS (ofArgs rng1 (consM (pureM (.int 10)) (nilM))) (gSet 10) l3_law
def t2_law : M Fl := ifM (orT (truM (bin gNe (appM gLen (consM (getV 5) (nilM))) (pureM (.int 2)))) (truM (bin gNe (bin gMulA (bin gMulA (bin gMulA (bin gIx (bin gIx (getV 5) (pureM (.int 0))) (pureM (.int 0))) (bin gIx (bin gIx (getV 5) (pureM (.int 1))) (pureM (.int 1)))) (bin gIx (bin gIx (getV 14) (pureM (.int 0))) (pureM (.int 0)))) (bin gIx (bin gIx (getV 14) (pureM (.int 1))) (pureM (.int 1)))) (bin gMulA (getV 12) (getV 13))))) (retM (pureM (.bl false))) (nextM)
def t3_law : M Fl := seqM (setM 14 (callM 1 [] m_lattice (consM (bin gAdd (appM gListA (consM (bin gIx (getV 6) (pureM (.int 0))) (nilM))) (appM gListA (consM (bin gIx (getV 6) (pureM (.int 1))) (nilM)))) (nilM)))) (t2_law)
def t4_law : M Fl := ifM (andT (truM (bin gEq (appM gLen (consM (bin gIx (getV 6) (pureM (.int 0))) (nilM))) (pureM (.int 2)))) (truM (bin gEq (appM gLen (consM (bin gIx (getV 6) (pureM (.int 1))) (nilM))) (pureM (.int 2))))) (seqM (parM 12 13 (consM (bin gMulA (bin gIx (bin gIx (bin gIx (getV 6) (pureM (.int 0))) (pureM (.int 0))) (pureM (.int 0))) (bin gIx (bin gIx (bin gIx (getV 6) (pureM (.int 0))) (pureM (.int 1))) (pureM (.int 1)))) (consM (bin gMulA (bin gIx (bin gIx (bin gIx (getV 6) (pureM (.int 1))) (pureM (.int 0))) (pureM (.int 0))) (bin gIx (bin gIx (bin gIx (getV 6) (pureM (.int 1))) (pureM (.int 1))) (pureM (.int 1)))) (nilM)))) (t3_law)) (nextM)
def t5_law : M Fl := seqM (ifM (truM (bin gNe (lcM [15] (seqOfA (getV 5)) (gSet 15) (orT (truM (bin gNe (callM 2 [] m__law_reduced (consM (bin gIx (getV 6) (pureM (.int 0))) (consM (getV 15) (nilM)))) (appM gTup (consM (pureM (.int 0)) (consM (pureM (.int 0)) (nilM)))))) (truM (bin gNe (callM 2 [] m__law_reduced (consM (bin gIx (getV 6) (pureM (.int 1))) (consM (getV 15) (nilM)))) (appM gTup (consM (pureM (.int 0)) (consM (pureM (.int 0)) (nilM))))))) (getV 15)) (appM gLst (nilM)))) (retM (pureM (.bl false))) (nextM)) (t4_law)
def t6_law : M Fl := seqM (forS (ofArgs rng2 (consM (bin gSubI (pureM (.int 0)) (pureM (.int 9))) (consM (pureM (.int 10)) (nilM)))) (gSet 9) l4_law) (t5_law)
def t7_law : M Fl := seqM (forS (ofArgs rng1 (consM (pureM (.int 40)) (nilM))) (gSet 8) l2_law) (t6_law)
def t8_law : M Fl := seqM (setM 7 (pureM (.int 60))) (t7_law)
def t9_law : M Fl := seqM (ifM (orT (truM (bin gNe (callM 2 [] (fun ds => m_lattice_both (byIx [1, 0] ds)) (consM (getV 3) (consM (getV 4) (nilM)))) (getV 5))) (orT (truM (bin gNe (callM 1 [] m_lattice (consM (appM gListA (consM (getV 5) (nilM))) (nilM))) (getV 5))) (truM (bin gNe (callM 2 [] m_lattice_both (consM (getV 3) (consM (getV 3) (nilM)))) (bin gIx (getV 6) (pureM (.int 0))))))) (retM (pureM (.bl false))) (nextM)) (t8_law)
def t10_law : M Fl := seqM (asgM (gUnp 2 (gsCons (gSet 5) (gsCons (gSet 6) (gsNil)))) (appM gTup (consM (callM 2 [] m_lattice_both (consM (getV 3) (consM (getV 4) (nilM)))) (consM (appM gLst (consM (callM 1 [] m_lattice (consM (getV 3) (nilM))) (consM (callM 1 [] m_lattice (consM (getV 4) (nilM))) (nilM)))) (nilM))))) (t9_law)
def l14_law : M Fl := seqM (parM 3 4 (consM (callP 0 [] m__law_some_shifts 1 (nilM)) (consM (callP 0 [] m__law_some_shifts 1 (nilM)) (nilM)))) (t10_law)
def t11_law : M Fl := retM (andM (callP 0 [] m__law_refused_right 1 (nilM)) (bin gEq (callM 2 [] m_lattice_both (consM (appM gLst (consM (appM gTup (consM (bin gPow (pureM (.int 10)) (pureM (.int 6))) (consM (pureM (.int 1)) (nilM)))) (nilM))) (consM (appM gLst (consM (appM gTup (consM (pureM (.int 0)) (consM (bin gPow (pureM (.int 10)) (pureM (.int 6))) (nilM)))) (consM (appM gTup (consM (bin gPow (pureM (.int 10)) (pureM (.int 6))) (consM (pureM (.int 0)) (nilM)))) (nilM)))) (nilM)))) (appM gTup (consM (appM gTup (consM (bin gPow (pureM (.int 10)) (pureM (.int 12))) (consM (bin gPow (pureM (.int 10)) (pureM (.int 6))) (nilM)))) (nilM)))))
def t12_law : M Fl := seqM (forS (ofArgs rng1 (consM (pureM (.int 6)) (nilM))) (gSet 2) l14_law) (t11_law)
def b_law : M Fl := seqM (setM 1 (callM 1 [] m__law_pen (consM (getV 0) (nilM)))) (t12_law)
def m_law : List D → Res D := runB 16 [] false b_law
end
end Gk15
namespace Gk15
open PySem PySem.Spec PyProof.Rows L2 DL
section
variable {P : Program} {w : World} {K : Fg} {mg : Str → Option Value} {base : Heap}
theorem sc__law_pen : FnScope ["script", "cell"] ["script"] (defScope s__law_pen) := ⟨rfl, rfl, rfl, by decide +kernel, rfl, by decide +kernel, by decide +kernel⟩
theorem ok__law_pen {fd : FuncData} (Fn : FunD K "_law_pen" "_law_pen" (defArgs s__law_pen) (defBody s__law_pen) (defScope s__law_pen) [] [] (He.ga K "_law_pen") fd) (m_int : mg "int" = none) : FnG P w K mg base 1 (He.ga K "_law_pen") fd ["script"] (spF K mg 1 (.lst .fz) m__law_pen) :=
  fnFD (ω' := []) false Fn sc__law_pen fun cdv A outer s H E hr gd hcd => (dss_one (ds_ret (wk_fzs _) .nil (de_lstO (da_cons (de_fz (de_lc (own := [("cell", 1)]) rfl sc__law_pen.nd (hv_cons rfl hv_nil) (di_all (de_slice (de_var (i := 0) rfl (pv 0)) do_none (do_some de_int))) (blkOk_by (by rfl)) (fun s' H' C' cl fp => (dg_name (i := 1) rfl (pg_name (i := 1) sc__law_pen.nd rfl (by first | exact .inl rfl | exact .inr rfl)))) (fun s' H' C' cl fp => dts_nil) (fun s' H' C' cl fp => (dty cd_int m_int bt_int (da_cons (de_var (i := 1) rfl (pv 1)) da_nil))))) (da_cons de_int (da_cons de_int da_nil))))))
theorem sc__law_draw : FnScope ["pen", "many", "rest", "at", "cell", "mixed"] ["pen", "many"] (defScope s__law_draw) := ⟨rfl, rfl, rfl, by decide +kernel, rfl, by decide +kernel, by decide +kernel⟩
theorem ok__law_draw {fd : FuncData} (Fn : FunD K "_law_draw" "_law_draw" (defArgs s__law_draw) (defBody s__law_draw) (defScope s__law_draw) [] [] (He.ga K "_law_draw") fd) (m_int : mg "int" = none) (m_len : mg "len" = none) (m_abs : mg "abs" = none) : FnG P w K mg base 1 (He.ga K "_law_draw") fd ["pen", "many"] (spP K mg 1 (.fz) m__law_draw) :=
  fnPD (ω' := fun _ => []) Fn sc__law_draw fun cdv A outer s H E a hr gd hcd => (dss_cons (ds_if (wk_fzs _) (dt_cmp od_gt (de_ixo (i := 0) rfl rfl (pv 0) de_int (fun _ _ => rfl)) de_int (nomark _)) (dss_cons (ds_set (i := 2) (wk_fzs _) sc__law_draw.nd rfl (by first | exact .inl rfl | exact .inr rfl) (dty cd_int m_int bt_int (da_cons (de_ixo (i := 0) rfl rfl (pv 0) de_int (fun _ _ => rfl)) da_nil))) (dss_cons (ds_setIx (i := 0) (wk_fzs _) rfl rfl (pv 0) (de_op od_divW (de_var (i := 2) rfl (pv 2)) (de_var (i := 1) rfl (pv 1))) de_int (by intro _; rfl)) (dss_one (ds_ret (wk_fzs _) (.pin .nil) (de_op od_mod (dty cd_int m_int bt_int (da_cons (de_var (i := 2) rfl (pv 2)) da_nil)) (de_var (i := 1) rfl (pv 1))))))) dss_nil) (dss_cons (ds_set (i := 3) (wk_fzs _) sc__law_draw.nd rfl (by first | exact .inl rfl | exact .inr rfl) (de_ixo (i := 0) rfl rfl (pv 0) de_int (fun _ _ => rfl))) (dss_cons (ds_setIx (i := 0) (wk_fzs _) rfl rfl (pv 0) (de_op od_add (de_var (i := 3) rfl (pv 3)) de_int) de_int (by intro _; rfl)) (dss_cons (ds_set (i := 4) (wk_fzs _) sc__law_draw.nd rfl (by first | exact .inl rfl | exact .inr rfl) (de_op od_add (de_op od_mulA de_int (de_var (i := 3) rfl (pv 3))) de_int)) (dss_cons (ds_if (wk_fzs _) (dt_cmp (od_ne hr.units) (de_ixo (i := 0) rfl rfl (pv 0) de_int (fun _ _ => rfl)) (de_lst da_nil) (nomark _)) (dss_one (ds_set (i := 4) (wk_fzs _) sc__law_draw.nd rfl (by first | exact .inl rfl | exact .inr rfl) (de_ix (de_ixo (i := 0) rfl rfl (pv 0) de_int (fun _ _ => rfl)) (de_op od_mod (dty cd_int m_int bt_int (da_cons (de_var (i := 3) rfl (pv 3)) da_nil)) (db cd_len m_len bt_len (da_cons (de_ixo (i := 0) rfl rfl (pv 0) de_int (fun _ _ => rfl)) da_nil))) (fun _ _ => rfl)))) dss_nil) (dss_cons (ds_if (wk_fzs _) (DW.dt (dw_and (dt_cmp od_lt (de_var (i := 3) rfl (pv 3)) (db cd_len m_len bt_len (da_cons (de_ixo (i := 0) rfl rfl (pv 0) de_int (fun _ _ => rfl)) da_nil)) (nomark _)) (dw_and1 (dt_cmp od_ge (db cd_abs m_abs bt_abs (da_cons (de_var (i := 4) rfl (pv 4)) da_nil)) (de_op od_pow de_int de_int) (nomark _))))) (dss_cons (ds_set (i := 2) (wk_fzs _) sc__law_draw.nd rfl (by first | exact .inl rfl | exact .inr rfl) (de_op od_add (de_op od_mulA de_int (de_op od_sub (db cd_abs m_abs bt_abs (da_cons (de_var (i := 4) rfl (pv 4)) da_nil)) (de_op od_pow de_int de_int))) (dty cd_int m_int bt_int (da_cons (de_cmp od_lt (de_var (i := 4) rfl (pv 4)) de_int (nomark _)) da_nil)))) (dss_cons (ds_setIx (i := 0) (wk_fzs _) rfl rfl (pv 0) (de_op od_divW (dty cd_int m_int bt_int (da_cons (de_var (i := 2) rfl (pv 2)) da_nil)) (de_var (i := 1) rfl (pv 1))) de_int (by intro _; rfl)) (dss_one (ds_ret (wk_fzs _) (.pin .nil) (de_op od_mod (dty cd_int m_int bt_int (da_cons (de_var (i := 2) rfl (pv 2)) da_nil)) (de_var (i := 1) rfl (pv 1))))))) dss_nil) (dss_cons (ds_set (i := 5) (wk_fzs _) sc__law_draw.nd rfl (by first | exact .inl rfl | exact .inr rfl) (de_op od_mod (dty cd_int m_int bt_int (da_cons (de_op od_pow (de_op od_add (de_op od_add (de_op od_mod (dty cd_int m_int bt_int (da_cons (de_var (i := 4) rfl (pv 4)) da_nil)) de_int) (de_op od_mulA de_int (de_var (i := 3) rfl (pv 3)))) de_int) de_int) da_nil)) de_int)) (dss_cons (ds_set (i := 5) (wk_fzs _) sc__law_draw.nd rfl (by first | exact .inl rfl | exact .inr rfl) (de_op od_mod (dty cd_int m_int bt_int (da_cons (de_op od_pow (de_op od_add (de_op od_add (de_op od_mulA (de_var (i := 5) rfl (pv 5)) (de_op od_add (de_op od_mulA de_int (de_var (i := 3) rfl (pv 3))) de_int)) (de_op od_mulA (de_op od_mulA de_int (de_var (i := 3) rfl (pv 3))) (de_var (i := 3) rfl (pv 3)))) de_int) de_int) da_nil)) de_int)) (dss_one (ds_ret (wk_fzs _) (.pin .nil) (de_op od_mod (dty cd_int m_int bt_int (da_cons (de_op od_divW (de_var (i := 5) rfl (pv 5)) de_int) da_nil)) (de_var (i := 1) rfl (pv 1)))))))))))))
theorem sc__law_pick : FnScope ["pen", "some"] ["pen", "some"] (defScope s__law_pick) := ⟨rfl, rfl, rfl, by decide +kernel, rfl, by decide +kernel, by decide +kernel⟩
theorem ok__law_pick {fd f__law_draw : FuncData} (Fn : FunD K "_law_pick" "_law_pick" (defArgs s__law_pick) (defBody s__law_pick) (defScope s__law_pick) [] [] (He.ga K "_law_pick") fd) (c__law_draw : Got P w K mg base 1 f__law_draw "_law_draw" ["pen", "many"] (spP K mg 1 (.fz) m__law_draw)) (m_len : mg "len" = none) : FnG P w K mg base 2 (He.ga K "_law_pick") fd ["pen", "some"] (spP K mg 1 (.fz) m__law_pick) :=
  fnPD (ω' := fun _ => []) Fn sc__law_pick fun cdv A outer s H E a hr gd hcd => (dss_one (ds_ret (wk_fzs _) (.pin .nil) (de_ix (de_var (i := 1) rfl (pv 1)) (dcP c__law_draw (hr.mono (by decide : 1 ≤ 1)) gd letsB (i := 0) rfl rfl (pv 0) (da_cons (db cd_len m_len bt_len (da_cons (de_var (i := 1) rfl (pv 1)) da_nil)) da_nil)) (fun _ _ => rfl))))
theorem sc_is_list : FnScope ["value"] ["value"] (defScope s_is_list) := ⟨rfl, rfl, rfl, by decide +kernel, rfl, by decide +kernel, by decide +kernel⟩
theorem ok_is_list {fd : FuncData} (Fn : FunD K "is_list" "is_list" (defArgs s_is_list) (defBody s_is_list) (defScope s_is_list) [] [] (He.ga K "is_list") fd) (m_isinstance : mg "isinstance" = none) (m_list : mg "list" = none) (m_tuple : mg "tuple" = none) : FnG P w K mg base 1 (He.ga K "is_list") fd ["value"] (spF K mg 1 (.fz) m_is_list) :=
  fnFD (ω' := []) false Fn sc_is_list fun cdv A outer s H E hr gd hcd => (dss_one (ds_ret (wk_fzs _) .nil (de_isi2 (T1 := "list") (T2 := "tuple") rfl m_isinstance (de_var (i := 0) rfl (pv 0)) (pe_bltn rfl m_list (bt_list) rfl) (pe_bltn rfl m_tuple (bt_tuple) rfl))))
theorem sc_is_integer : FnScope ["value"] ["value"] (defScope s_is_integer) := ⟨rfl, rfl, rfl, by decide +kernel, rfl, by decide +kernel, by decide +kernel⟩
theorem ok_is_integer {fd : FuncData} (Fn : FunD K "is_integer" "is_integer" (defArgs s_is_integer) (defBody s_is_integer) (defScope s_is_integer) [] [] (He.ga K "is_integer") fd) (m_isinstance : mg "isinstance" = none) (m_int : mg "int" = none) (m_bool : mg "bool" = none) : FnG P w K mg base 1 (He.ga K "is_integer") fd ["value"] (spF K mg 1 (.fz) m_is_integer) :=
  fnFD (ω' := []) false Fn sc_is_integer fun cdv A outer s H E hr gd hcd => (dss_one (ds_ret (wk_fzs _) .nil (de_and (de_isi (T := "int") rfl m_isinstance (de_var (i := 0) rfl (pv 0)) (pe_bltn rfl m_int (bt_int) rfl)) (de_one (de_not (de_isi (T := "bool") rfl m_isinstance (de_var (i := 0) rfl (pv 0)) (pe_bltn rfl m_bool (bt_bool) rfl)))))))
theorem sc_is_between : FnScope ["value", "least", "most"] ["value", "least", "most"] (defScope s_is_between) := ⟨rfl, rfl, rfl, by decide +kernel, rfl, by decide +kernel, by decide +kernel⟩
theorem ok_is_between {fd f_is_integer : FuncData} (Fn : FunD K "is_between" "is_between" (defArgs s_is_between) (defBody s_is_between) (defScope s_is_between) [] [] (He.ga K "is_between") fd) (c_is_integer : Got P w K mg base 1 f_is_integer "is_integer" ["value"] (spF K mg 1 (.fz) m_is_integer)) : FnG P w K mg base 2 (He.ga K "is_between") fd ["value", "least", "most"] (spF K mg 3 (.fz) m_is_between) :=
  fnFD (ω' := []) false Fn sc_is_between fun cdv A outer s H E hr gd hcd => (dss_one (ds_ret (wk_fzs _) .nil (de_and (dc c_is_integer (hr.mono (by decide : 1 ≤ 1)) gd letsB (da_cons (de_var (i := 0) rfl (pv 0)) da_nil)) (de_one (de_chain (p := fun i j => decide (i ≤ j)) (p' := fun i j => decide (i ≤ j)) op_le op_le (de_var (i := 1) rfl (pv 1)) (de_var (i := 0) rfl (pv 0)) (de_var (i := 2) rfl (pv 2)))))))
theorem sc_is_cell : FnScope ["value", "one"] ["value"] (defScope s_is_cell) := ⟨rfl, rfl, rfl, by decide +kernel, rfl, by decide +kernel, by decide +kernel⟩
theorem ok_is_cell {fd f_is_between : FuncData} (Fn : FunD K "is_cell" "is_cell" (defArgs s_is_cell) (defBody s_is_cell) (defScope s_is_cell) [] [] (He.ga K "is_cell") fd) (m_isinstance : mg "isinstance" = none) (m_tuple : mg "tuple" = none) (m_len : mg "len" = none) (c_is_between : Got P w K mg base 2 f_is_between "is_between" ["value", "least", "most"] (spF K mg 3 (.fz) m_is_between)) (gi_MOST_FAR : ∃ t, mg "MOST_FAR" = some (.int 1000000000000 t)) (m_all : mg "all" = none) : FnG P w K mg base 3 (He.ga K "is_cell") fd ["value"] (spF K mg 1 (.fz) m_is_cell) :=
  fnFD (ω' := []) false Fn sc_is_cell fun cdv A outer s H E hr gd hcd => (dss_cons (ds_if (wk_fzs _) (DW.dt (dw_or (dt_not (dt_truth (de_isi (T := "tuple") rfl m_isinstance (de_var (i := 0) rfl (pv 0)) (pe_bltn rfl m_tuple (bt_tuple) rfl)))) (dw_or1 (dt_cmp (od_ne hr.units) (db cd_len m_len bt_len (da_cons (de_var (i := 0) rfl (pv 0)) da_nil)) de_int (nomark _))))) (dss_one (ds_ret (wk_fzs _) .nil de_bl)) dss_nil) (dss_one (ds_ret (wk_fzs _) .nil (db (cd_all rfl) m_all bt_all (da_cons (de_fz (de_lc (own := [("one", 1)]) rfl sc_is_cell.nd (hv_cons rfl hv_nil) (di_all (de_var (i := 0) rfl (pv 0))) (blkOk_by (by rfl)) (fun s' H' C' cl fp => (dg_name (i := 1) rfl (pg_name (i := 1) sc_is_cell.nd rfl (by first | exact .inl rfl | exact .inr rfl)))) (fun s' H' C' cl fp => dts_nil) (fun s' H' C' cl fp => (dc c_is_between (hr.mono (by decide : 2 ≤ 2)) gd lets0 (da_cons (de_var (i := 1) rfl (pv 1)) (da_cons (de_op od_sub de_int (de_gint rfl gi_MOST_FAR)) (da_cons (de_gint rfl gi_MOST_FAR) da_nil))))))) da_nil)))))
theorem sc_need_shifts : FnScope ["part", "value", "one"] ["part", "value"] (defScope s_need_shifts) := ⟨rfl, rfl, rfl, by decide +kernel, rfl, by decide +kernel, by decide +kernel⟩
theorem ok_need_shifts {fd f_is_list f_is_cell : FuncData} (Fn : FunD K "need_shifts" "need_shifts" (defArgs s_need_shifts) (defBody s_need_shifts) (defScope s_need_shifts) [] [] (He.ga K "need_shifts") fd) (c_is_list : Got P w K mg base 1 f_is_list "is_list" ["value"] (spF K mg 1 (.fz) m_is_list)) (m_len : mg "len" = none) (gi_MOST_SHIFTS : ∃ t, mg "MOST_SHIFTS" = some (.int 200 t)) (c_is_cell : Got P w K mg base 3 f_is_cell "is_cell" ["value"] (spF K mg 1 (.fz) m_is_cell)) (m_all : mg "all" = none) (x1_BadValue : Ex1 P w K mg "BadValue" "part") (m_super : mg "super" = none) : FnG P w K mg base 4 (He.ga K "need_shifts") fd ["part", "value"] (spF K mg 2 (.fz) m_need_shifts) :=
  fnFD true Fn sc_need_shifts fun cdv A outer s H E hr gd hcd => (dss_one (ds_if (wk_fzs _) (DW.dt (dw_or (dt_not (dt_truth (dc c_is_list (hr.mono (by decide : 1 ≤ 3)) gd letsB (da_cons (de_var (i := 1) rfl (pv 1)) da_nil)))) (dw_or (dt_cmp od_gt (db cd_len m_len bt_len (da_cons (de_var (i := 1) rfl (pv 1)) da_nil)) (de_gint rfl gi_MOST_SHIFTS) (nomark _)) (dw_or1 (dt_not (dt_truth (db (cd_all rfl) m_all bt_all (da_cons (de_fz (de_lc (own := [("one", 2)]) rfl sc_need_shifts.nd (hv_cons rfl hv_nil) (di_all (de_var (i := 1) rfl (pv 1))) (blkOk_by (by rfl)) (fun s' H' C' cl fp => (dg_name (i := 2) rfl (pg_name (i := 2) sc_need_shifts.nd rfl (by first | exact .inl rfl | exact .inr rfl)))) (fun s' H' C' cl fp => dts_nil) (fun s' H' C' cl fp => (dc c_is_cell (hr.mono (by decide : 3 ≤ 3)) gd lets0 (da_cons (de_var (i := 2) rfl (pv 2)) da_nil))))) da_nil)))))))) (dss_one (ds_raise1 (k := 0) x1_BadValue m_super (hr.mono (by decide : 1 ≤ 3)) rfl (takes_of rfl rfl rfl rfl) (wk_fzs _) (de_var (i := 0) rfl (pv 0)))) dss_nil))
theorem sc_common : FnScope ["one", "other", "a", "b", "c", "d", "many"] ["one", "other"] (defScope s_common) := ⟨rfl, rfl, rfl, by decide +kernel, rfl, by decide +kernel, by decide +kernel⟩
theorem ok_common {fd : FuncData} (Fn : FunD K "common" "common" (defArgs s_common) (defBody s_common) (defScope s_common) [] [] (He.ga K "common") fd)  : FnG P w K mg base 1 (He.ga K "common") fd ["one", "other"] (spF K mg 2 (.fz) m_common) :=
  fnFD (ω' := []) false Fn sc_common fun cdv A outer s H E hr gd hcd => (dss_cons (ds_asg (vs := [2, 3, 4, 5]) (wk_fzs _) (de_tup (da_cons de_int (da_cons de_int (da_cons de_int (da_cons de_int da_nil))))) (dg_tup rfl (dgs_cons (dg_name (i := 2) rfl (pg_name (i := 2) sc_common.nd rfl (by first | exact .inl rfl | exact .inr rfl))) (dgs_cons (dg_name (i := 3) rfl (pg_name (i := 3) sc_common.nd rfl (by first | exact .inl rfl | exact .inr rfl))) (dgs_cons (dg_name (i := 4) rfl (pg_name (i := 4) sc_common.nd rfl (by first | exact .inl rfl | exact .inr rfl))) (dgs_cons (dg_name (i := 5) rfl (pg_name (i := 5) sc_common.nd rfl (by first | exact .inl rfl | exact .inr rfl))) dgs_nil)))))) (dss_cons (ds_while (wk_fzs _) passB (dt_cmp od_gt (de_var (i := 1) rfl (pv 1)) de_int (nomark _)) (dss_cons (ds_set (i := 6) (wk_fzs _) sc_common.nd rfl (by first | exact .inl rfl | exact .inr rfl) (de_op od_divW (de_var (i := 0) rfl (pv 0)) (de_var (i := 1) rfl (pv 1)))) (dss_cons (ds_par2 (i := 0) (j := 1) (wk_fzs _) rfl rfl rfl sc_common.nd (da_cons (de_var (i := 1) rfl (pv 1)) (da_cons (de_op od_sub (de_var (i := 0) rfl (pv 0)) (de_op od_mulA (de_var (i := 6) rfl (pv 6)) (de_var (i := 1) rfl (pv 1)))) da_nil))) (dss_one (ds_asg (vs := [2, 3, 4, 5]) (wk_fzs _) (de_tup (da_cons (de_var (i := 4) rfl (pv 4)) (da_cons (de_var (i := 5) rfl (pv 5)) (da_cons (de_op od_sub (de_var (i := 2) rfl (pv 2)) (de_op od_mulA (de_var (i := 6) rfl (pv 6)) (de_var (i := 4) rfl (pv 4)))) (da_cons (de_op od_sub (de_var (i := 3) rfl (pv 3)) (de_op od_mulA (de_var (i := 6) rfl (pv 6)) (de_var (i := 5) rfl (pv 5)))) da_nil))))) (dg_tup rfl (dgs_cons (dg_name (i := 2) rfl (pg_name (i := 2) sc_common.nd rfl (by first | exact .inl rfl | exact .inr rfl))) (dgs_cons (dg_name (i := 3) rfl (pg_name (i := 3) sc_common.nd rfl (by first | exact .inl rfl | exact .inr rfl))) (dgs_cons (dg_name (i := 4) rfl (pg_name (i := 4) sc_common.nd rfl (by first | exact .inl rfl | exact .inr rfl))) (dgs_cons (dg_name (i := 5) rfl (pg_name (i := 5) sc_common.nd rfl (by first | exact .inl rfl | exact .inr rfl))) dgs_nil)))))))))) (dss_one (ds_ret (wk_fzs _) .nil (de_tup (da_cons (de_var (i := 0) rfl (pv 0)) (da_cons (de_var (i := 2) rfl (pv 2)) (da_cons (de_var (i := 3) rfl (pv 3)) da_nil))))))))
theorem sc_divisor : FnScope ["one", "other"] ["one", "other"] (defScope s_divisor) := ⟨rfl, rfl, rfl, by decide +kernel, rfl, by decide +kernel, by decide +kernel⟩
theorem ok_divisor {fd : FuncData} (Fn : FunD K "divisor" "divisor" (defArgs s_divisor) (defBody s_divisor) (defScope s_divisor) [] [] (He.ga K "divisor") fd)  : FnG P w K mg base 1 (He.ga K "divisor") fd ["one", "other"] (spF K mg 2 (.fz) m_divisor) :=
  fnFD (ω' := []) false Fn sc_divisor fun cdv A outer s H E hr gd hcd => (dss_cons (ds_while (wk_fzs _) passB (dt_cmp od_gt (de_var (i := 1) rfl (pv 1)) de_int (nomark _)) (dss_one (ds_par2 (i := 0) (j := 1) (wk_fzs _) rfl rfl rfl sc_divisor.nd (da_cons (de_var (i := 1) rfl (pv 1)) (da_cons (de_op od_mod (de_var (i := 0) rfl (pv 0)) (de_var (i := 1) rfl (pv 1))) da_nil))))) (dss_one (ds_ret (wk_fzs _) .nil (de_var (i := 0) rfl (pv 0)))))
theorem sc_with_shift : FnScope ["row", "step", "shift", "size", "a", "b", "first", "rest"] ["row", "step", "shift"] (defScope s_with_shift) := ⟨rfl, rfl, rfl, by decide +kernel, rfl, by decide +kernel, by decide +kernel⟩
theorem ok_with_shift {fd f_divisor f_common : FuncData} (Fn : FunD K "with_shift" "with_shift" (defArgs s_with_shift) (defBody s_with_shift) (defScope s_with_shift) [] [] (He.ga K "with_shift") fd) (c_divisor : Got P w K mg base 1 f_divisor "divisor" ["one", "other"] (spF K mg 2 (.fz) m_divisor)) (m_abs : mg "abs" = none) (c_common : Got P w K mg base 1 f_common "common" ["one", "other"] (spF K mg 2 (.fz) m_common)) (m_min : mg "min" = none) (m_max : mg "max" = none) : FnG P w K mg base 2 (He.ga K "with_shift") fd ["row", "step", "shift"] (spF K mg 3 (.fz) m_with_shift) :=
  fnFD (ω' := []) false Fn sc_with_shift fun cdv A outer s H E hr gd hcd => (dss_cons (ds_if (wk_fzs _) (dt_cmp od_lt (de_ix (de_var (i := 2) rfl (pv 2)) de_int (fun _ _ => rfl)) de_int (nomark _)) (dss_one (ds_set (i := 2) (wk_fzs _) sc_with_shift.nd rfl (by first | exact .inl rfl | exact .inr rfl) (de_tup (da_cons (de_op od_sub de_int (de_ix (de_var (i := 2) rfl (pv 2)) de_int (fun _ _ => rfl))) (da_cons (de_op od_sub de_int (de_ix (de_var (i := 2) rfl (pv 2)) de_int (fun _ _ => rfl))) da_nil))))) dss_nil) (dss_cons (ds_if (wk_fzs _) (dt_cmp (od_eq hr.units) (de_ix (de_var (i := 2) rfl (pv 2)) de_int (fun _ _ => rfl)) de_int (nomark _)) (dss_one (ds_ret (wk_fzs _) .nil (de_tup (da_cons (de_var (i := 0) rfl (pv 0)) (da_cons (de_if (dt_cmp od_gt (de_var (i := 1) rfl (pv 1)) de_int (nomark _)) (dc c_divisor (hr.mono (by decide : 1 ≤ 1)) gd letsB (da_cons (de_var (i := 1) rfl (pv 1)) (da_cons (db cd_abs m_abs bt_abs (da_cons (de_ix (de_var (i := 2) rfl (pv 2)) de_int (fun _ _ => rfl)) da_nil)) da_nil))) (db cd_abs m_abs bt_abs (da_cons (de_ix (de_var (i := 2) rfl (pv 2)) de_int (fun _ _ => rfl)) da_nil))) da_nil))))) dss_nil) (dss_cons (ds_if (wk_fzs _) (dt_cmp (od_eq hr.units) (de_ix (de_var (i := 0) rfl (pv 0)) de_int (fun _ _ => rfl)) de_int (nomark _)) (dss_one (ds_ret (wk_fzs _) .nil (de_tup (da_cons (de_var (i := 2) rfl (pv 2)) (da_cons (de_var (i := 1) rfl (pv 1)) da_nil))))) dss_nil) (dss_cons (ds_asg (vs := [3, 4, 5]) (wk_fzs _) (dc c_common (hr.mono (by decide : 1 ≤ 1)) gd letsB (da_cons (de_ix (de_var (i := 0) rfl (pv 0)) de_int (fun _ _ => rfl)) (da_cons (de_ix (de_var (i := 2) rfl (pv 2)) de_int (fun _ _ => rfl)) da_nil))) (dg_tup rfl (dgs_cons (dg_name (i := 3) rfl (pg_name (i := 3) sc_with_shift.nd rfl (by first | exact .inl rfl | exact .inr rfl))) (dgs_cons (dg_name (i := 4) rfl (pg_name (i := 4) sc_with_shift.nd rfl (by first | exact .inl rfl | exact .inr rfl))) (dgs_cons (dg_name (i := 5) rfl (pg_name (i := 5) sc_with_shift.nd rfl (by first | exact .inl rfl | exact .inr rfl))) dgs_nil))))) (dss_cons (ds_set (i := 6) (wk_fzs _) sc_with_shift.nd rfl (by first | exact .inl rfl | exact .inr rfl) (de_tup (da_cons (de_var (i := 3) rfl (pv 3)) (da_cons (de_op od_add (de_op od_mulA (de_var (i := 4) rfl (pv 4)) (de_ix (de_var (i := 0) rfl (pv 0)) de_int (fun _ _ => rfl))) (de_op od_mulA (de_var (i := 5) rfl (pv 5)) (de_ix (de_var (i := 2) rfl (pv 2)) de_int (fun _ _ => rfl)))) da_nil)))) (dss_cons (ds_set (i := 7) (wk_fzs _) sc_with_shift.nd rfl (by first | exact .inl rfl | exact .inr rfl) (de_op od_sub (de_op od_mulA (de_op od_divW (de_ix (de_var (i := 2) rfl (pv 2)) de_int (fun _ _ => rfl)) (de_var (i := 3) rfl (pv 3))) (de_ix (de_var (i := 0) rfl (pv 0)) de_int (fun _ _ => rfl))) (de_op od_mulA (de_op od_divW (de_ix (de_var (i := 0) rfl (pv 0)) de_int (fun _ _ => rfl)) (de_var (i := 3) rfl (pv 3))) (de_ix (de_var (i := 2) rfl (pv 2)) de_int (fun _ _ => rfl))))) (dss_cons (ds_set (i := 1) (wk_fzs _) sc_with_shift.nd rfl (by first | exact .inl rfl | exact .inr rfl) (dc c_divisor (hr.mono (by decide : 1 ≤ 1)) gd letsB (da_cons (db (cd_max rfl) m_max bt_max (da_cons (de_var (i := 1) rfl (pv 1)) (da_cons (db cd_abs m_abs bt_abs (da_cons (de_var (i := 7) rfl (pv 7)) da_nil)) da_nil))) (da_cons (db (cd_min rfl) m_min bt_min (da_cons (de_var (i := 1) rfl (pv 1)) (da_cons (db cd_abs m_abs bt_abs (da_cons (de_var (i := 7) rfl (pv 7)) da_nil)) da_nil))) da_nil)))) (dss_one (ds_ret (wk_fzs _) .nil (de_tup (da_cons (de_var (i := 6) rfl (pv 6)) (da_cons (de_var (i := 1) rfl (pv 1)) da_nil))))))))))))
theorem sc_least_form : FnScope ["shifts", "row", "step", "x", "y"] ["shifts"] (defScope s_least_form) := ⟨rfl, rfl, rfl, by decide +kernel, rfl, by decide +kernel, by decide +kernel⟩
theorem ok_least_form {fd f_with_shift : FuncData} (Fn : FunD K "least_form" "least_form" (defArgs s_least_form) (defBody s_least_form) (defScope s_least_form) [] [] (He.ga K "least_form") fd) (c_with_shift : Got P w K mg base 2 f_with_shift "with_shift" ["row", "step", "shift"] (spF K mg 3 (.fz) m_with_shift)) : FnG P w K mg base 3 (He.ga K "least_form") fd ["shifts"] (spF K mg 1 (.fz) m_least_form) :=
  fnFD (ω' := []) false Fn sc_least_form fun cdv A outer s H E hr gd hcd => (dss_cons (ds_asg (vs := [1, 2]) (wk_fzs _) (de_tup (da_cons (de_tup (da_cons de_int (da_cons de_int da_nil))) (da_cons de_int da_nil))) (dg_tup rfl (dgs_cons (dg_name (i := 1) rfl (pg_name (i := 1) sc_least_form.nd rfl (by first | exact .inl rfl | exact .inr rfl))) (dgs_cons (dg_name (i := 2) rfl (pg_name (i := 2) sc_least_form.nd rfl (by first | exact .inl rfl | exact .inr rfl))) dgs_nil)))) (dss_cons (ds_for (vs := [3, 4]) (wk_fzs _) passB rfl (di_all (de_var (i := 0) rfl (pv 0))) (dg_tup rfl (dgs_cons (dg_name (i := 3) rfl (pg_name (i := 3) sc_least_form.nd rfl (by first | exact .inl rfl | exact .inr rfl))) (dgs_cons (dg_name (i := 4) rfl (pg_name (i := 4) sc_least_form.nd rfl (by first | exact .inl rfl | exact .inr rfl))) dgs_nil))) (dss_one (ds_asg (vs := [1, 2]) (wk_fzs _) (dc c_with_shift (hr.mono (by decide : 2 ≤ 2)) gd letsB (da_cons (de_var (i := 1) rfl (pv 1)) (da_cons (de_var (i := 2) rfl (pv 2)) (da_cons (de_tup (da_cons (de_var (i := 3) rfl (pv 3)) (da_cons (de_var (i := 4) rfl (pv 4)) da_nil))) da_nil)))) (dg_tup rfl (dgs_cons (dg_name (i := 1) rfl (pg_name (i := 1) sc_least_form.nd rfl (by first | exact .inl rfl | exact .inr rfl))) (dgs_cons (dg_name (i := 2) rfl (pg_name (i := 2) sc_least_form.nd rfl (by first | exact .inl rfl | exact .inr rfl))) dgs_nil)))))) (dss_cons (ds_if (wk_fzs _) (dt_cmp (od_eq hr.units) (de_ix (de_var (i := 1) rfl (pv 1)) de_int (fun _ _ => rfl)) de_int (nomark _)) (dss_one (ds_ret (wk_fzs _) .nil (de_if (dt_cmp od_gt (de_var (i := 2) rfl (pv 2)) de_int (nomark _)) (de_tup (da_cons (de_tup (da_cons de_int (da_cons (de_var (i := 2) rfl (pv 2)) da_nil))) da_nil)) (de_tup da_nil)))) dss_nil) (dss_cons (ds_if (wk_fzs _) (dt_cmp (od_eq hr.units) (de_var (i := 2) rfl (pv 2)) de_int (nomark _)) (dss_one (ds_ret (wk_fzs _) .nil (de_tup (da_cons (de_var (i := 1) rfl (pv 1)) da_nil)))) dss_nil) (dss_one (ds_ret (wk_fzs _) .nil (de_tup (da_cons (de_tup (da_cons (de_ix (de_var (i := 1) rfl (pv 1)) de_int (fun _ _ => rfl)) (da_cons (de_op od_mod (de_ix (de_var (i := 1) rfl (pv 1)) de_int (fun _ _ => rfl)) (de_var (i := 2) rfl (pv 2))) da_nil))) (da_cons (de_tup (da_cons de_int (da_cons (de_var (i := 2) rfl (pv 2)) da_nil))) da_nil)))))))))
theorem sc_lattice : FnScope ["shifts"] ["shifts"] (defScope s_lattice) := ⟨rfl, rfl, rfl, by decide +kernel, rfl, by decide +kernel, by decide +kernel⟩
theorem ok_lattice {fd f_need_shifts f_least_form : FuncData} (Fn : FunD K "lattice" "lattice" (defArgs s_lattice) (defBody s_lattice) (defScope s_lattice) [] [] (He.ga K "lattice") fd) (c_need_shifts : Got P w K mg base 4 f_need_shifts "need_shifts" ["part", "value"] (spF K mg 2 (.fz) m_need_shifts)) (c_least_form : Got P w K mg base 3 f_least_form "least_form" ["shifts"] (spF K mg 1 (.fz) m_least_form)) : FnG P w K mg base 5 (He.ga K "lattice") fd ["shifts"] (spF K mg 1 (.fz) m_lattice) :=
  fnFD (ω' := []) false Fn sc_lattice fun cdv A outer s H E hr gd hcd => (dss_cons (ds_expr (wk_fzs _) (dc c_need_shifts (hr.mono (by decide : 4 ≤ 4)) gd letsB (da_cons de_str (da_cons (de_var (i := 0) rfl (pv 0)) da_nil)))) (dss_one (ds_ret (wk_fzs _) .nil (dc c_least_form (hr.mono (by decide : 3 ≤ 4)) gd letsB (da_cons (de_var (i := 0) rfl (pv 0)) da_nil)))))
theorem sc_within : FnScope ["lattice", "shift", "x", "y", "a", "b", "many"] ["lattice", "shift"] (defScope s_within) := ⟨rfl, rfl, rfl, by decide +kernel, rfl, by decide +kernel, by decide +kernel⟩
theorem ok_within {fd : FuncData} (Fn : FunD K "within" "within" (defArgs s_within) (defBody s_within) (defScope s_within) [] [] (He.ga K "within") fd)  : FnG P w K mg base 1 (He.ga K "within") fd ["lattice", "shift"] (spF K mg 2 (.fz) m_within) :=
  fnFD (ω' := []) false Fn sc_within fun cdv A outer s H E hr gd hcd => (dss_cons (ds_asg (vs := [2, 3]) (wk_fzs _) (de_var (i := 1) rfl (pv 1)) (dg_tup rfl (dgs_cons (dg_name (i := 2) rfl (pg_name (i := 2) sc_within.nd rfl (by first | exact .inl rfl | exact .inr rfl))) (dgs_cons (dg_name (i := 3) rfl (pg_name (i := 3) sc_within.nd rfl (by first | exact .inl rfl | exact .inr rfl))) dgs_nil)))) (dss_cons (ds_for (vs := [4, 5]) (wk_fzs _) passB rfl (di_all (de_var (i := 0) rfl (pv 0))) (dg_tup rfl (dgs_cons (dg_name (i := 4) rfl (pg_name (i := 4) sc_within.nd rfl (by first | exact .inl rfl | exact .inr rfl))) (dgs_cons (dg_name (i := 5) rfl (pg_name (i := 5) sc_within.nd rfl (by first | exact .inl rfl | exact .inr rfl))) dgs_nil))) (dss_cons (ds_if (wk_fzs _) (dt_cmp od_gt (de_var (i := 4) rfl (pv 4)) de_int (nomark _)) (dss_one (ds_set (i := 6) (wk_fzs _) sc_within.nd rfl (by first | exact .inl rfl | exact .inr rfl) (de_op od_divW (de_var (i := 2) rfl (pv 2)) (de_var (i := 4) rfl (pv 4))))) (dss_one (ds_set (i := 6) (wk_fzs _) sc_within.nd rfl (by first | exact .inl rfl | exact .inr rfl) (de_op od_divW (de_var (i := 3) rfl (pv 3)) (de_var (i := 5) rfl (pv 5)))))) (dss_one (ds_par2 (i := 2) (j := 3) (wk_fzs _) rfl rfl rfl sc_within.nd (da_cons (de_op od_sub (de_var (i := 2) rfl (pv 2)) (de_op od_mulA (de_var (i := 6) rfl (pv 6)) (de_var (i := 4) rfl (pv 4)))) (da_cons (de_op od_sub (de_var (i := 3) rfl (pv 3)) (de_op od_mulA (de_var (i := 6) rfl (pv 6)) (de_var (i := 5) rfl (pv 5)))) da_nil)))))) (dss_one (ds_ret (wk_fzs _) .nil (de_tup (da_cons (de_var (i := 2) rfl (pv 2)) (da_cons (de_var (i := 3) rfl (pv 3)) da_nil)))))))
theorem sc_is_in : FnScope ["lattice", "shift"] ["lattice", "shift"] (defScope s_is_in) := ⟨rfl, rfl, rfl, by decide +kernel, rfl, by decide +kernel, by decide +kernel⟩
theorem ok_is_in {fd f_within : FuncData} (Fn : FunD K "is_in" "is_in" (defArgs s_is_in) (defBody s_is_in) (defScope s_is_in) [] [] (He.ga K "is_in") fd) (c_within : Got P w K mg base 1 f_within "within" ["lattice", "shift"] (spF K mg 2 (.fz) m_within)) : FnG P w K mg base 2 (He.ga K "is_in") fd ["lattice", "shift"] (spF K mg 2 (.fz) m_is_in) :=
  fnFD (ω' := []) false Fn sc_is_in fun cdv A outer s H E hr gd hcd => (dss_one (ds_ret (wk_fzs _) .nil (de_cmp (od_eq hr.units) (dc c_within (hr.mono (by decide : 1 ≤ 1)) gd letsB (da_cons (de_var (i := 0) rfl (pv 0)) (da_cons (de_var (i := 1) rfl (pv 1)) da_nil))) (de_tup (da_cons de_int (da_cons de_int da_nil))) (nomark _))))
theorem sc_in_lattice : FnScope ["shifts", "shift"] ["shifts", "shift"] (defScope s_in_lattice) := ⟨rfl, rfl, rfl, by decide +kernel, rfl, by decide +kernel, by decide +kernel⟩
theorem ok_in_lattice {fd f_need_shifts f_is_cell f_is_in f_least_form : FuncData} (Fn : FunD K "in_lattice" "in_lattice" (defArgs s_in_lattice) (defBody s_in_lattice) (defScope s_in_lattice) [] [] (He.ga K "in_lattice") fd) (c_need_shifts : Got P w K mg base 4 f_need_shifts "need_shifts" ["part", "value"] (spF K mg 2 (.fz) m_need_shifts)) (c_is_cell : Got P w K mg base 3 f_is_cell "is_cell" ["value"] (spF K mg 1 (.fz) m_is_cell)) (x1_BadValue : Ex1 P w K mg "BadValue" "part") (m_super : mg "super" = none) (c_is_in : Got P w K mg base 2 f_is_in "is_in" ["lattice", "shift"] (spF K mg 2 (.fz) m_is_in)) (c_least_form : Got P w K mg base 3 f_least_form "least_form" ["shifts"] (spF K mg 1 (.fz) m_least_form)) : FnG P w K mg base 5 (He.ga K "in_lattice") fd ["shifts", "shift"] (spF K mg 2 (.fz) m_in_lattice) :=
  fnFD (ω' := []) false Fn sc_in_lattice fun cdv A outer s H E hr gd hcd => (dss_cons (ds_expr (wk_fzs _) (dc c_need_shifts (hr.mono (by decide : 4 ≤ 4)) gd letsB (da_cons de_str (da_cons (de_var (i := 0) rfl (pv 0)) da_nil)))) (dss_cons (ds_if (wk_fzs _) (dt_not (dt_truth (dc c_is_cell (hr.mono (by decide : 3 ≤ 4)) gd letsB (da_cons (de_var (i := 1) rfl (pv 1)) da_nil)))) (dss_one (ds_raise1 (k := 0) x1_BadValue m_super (hr.mono (by decide : 1 ≤ 4)) rfl (takes_of rfl rfl rfl rfl) (wk_fzs _) de_str)) dss_nil) (dss_one (ds_ret (wk_fzs _) .nil (dc c_is_in (hr.mono (by decide : 2 ≤ 4)) gd letsB (da_cons (dc c_least_form (hr.mono (by decide : 3 ≤ 4)) gd letsB (da_cons (de_var (i := 0) rfl (pv 0)) da_nil)) (da_cons (de_var (i := 1) rfl (pv 1)) da_nil)))))))
theorem sc_rest_of : FnScope ["shifts", "shift"] ["shifts", "shift"] (defScope s_rest_of) := ⟨rfl, rfl, rfl, by decide +kernel, rfl, by decide +kernel, by decide +kernel⟩
theorem ok_rest_of {fd f_need_shifts f_is_cell f_within f_least_form : FuncData} (Fn : FunD K "rest_of" "rest_of" (defArgs s_rest_of) (defBody s_rest_of) (defScope s_rest_of) [] [] (He.ga K "rest_of") fd) (c_need_shifts : Got P w K mg base 4 f_need_shifts "need_shifts" ["part", "value"] (spF K mg 2 (.fz) m_need_shifts)) (c_is_cell : Got P w K mg base 3 f_is_cell "is_cell" ["value"] (spF K mg 1 (.fz) m_is_cell)) (x1_BadValue : Ex1 P w K mg "BadValue" "part") (m_super : mg "super" = none) (c_within : Got P w K mg base 1 f_within "within" ["lattice", "shift"] (spF K mg 2 (.fz) m_within)) (c_least_form : Got P w K mg base 3 f_least_form "least_form" ["shifts"] (spF K mg 1 (.fz) m_least_form)) : FnG P w K mg base 5 (He.ga K "rest_of") fd ["shifts", "shift"] (spF K mg 2 (.fz) m_rest_of) :=
  fnFD (ω' := []) false Fn sc_rest_of fun cdv A outer s H E hr gd hcd => (dss_cons (ds_expr (wk_fzs _) (dc c_need_shifts (hr.mono (by decide : 4 ≤ 4)) gd letsB (da_cons de_str (da_cons (de_var (i := 0) rfl (pv 0)) da_nil)))) (dss_cons (ds_if (wk_fzs _) (dt_not (dt_truth (dc c_is_cell (hr.mono (by decide : 3 ≤ 4)) gd letsB (da_cons (de_var (i := 1) rfl (pv 1)) da_nil)))) (dss_one (ds_raise1 (k := 0) x1_BadValue m_super (hr.mono (by decide : 1 ≤ 4)) rfl (takes_of rfl rfl rfl rfl) (wk_fzs _) de_str)) dss_nil) (dss_one (ds_ret (wk_fzs _) .nil (dc c_within (hr.mono (by decide : 1 ≤ 4)) gd letsB (da_cons (dc c_least_form (hr.mono (by decide : 3 ≤ 4)) gd letsB (da_cons (de_var (i := 0) rfl (pv 0)) da_nil)) (da_cons (de_var (i := 1) rfl (pv 1)) da_nil)))))))
theorem sc_size_of : FnScope ["lattice"] ["lattice"] (defScope s_size_of) := ⟨rfl, rfl, rfl, by decide +kernel, rfl, by decide +kernel, by decide +kernel⟩
theorem ok_size_of {fd : FuncData} (Fn : FunD K "size_of" "size_of" (defArgs s_size_of) (defBody s_size_of) (defScope s_size_of) [] [] (He.ga K "size_of") fd) (m_len : mg "len" = none) : FnG P w K mg base 1 (He.ga K "size_of") fd ["lattice"] (spF K mg 1 (.fz) m_size_of) :=
  fnFD (ω' := []) false Fn sc_size_of fun cdv A outer s H E hr gd hcd => (dss_one (ds_ret (wk_fzs _) .nil (de_if (dt_cmp (od_eq hr.units) (db cd_len m_len bt_len (da_cons (de_var (i := 0) rfl (pv 0)) da_nil)) de_int (nomark _)) (de_op od_mulA (de_ix (de_ix (de_var (i := 0) rfl (pv 0)) de_int (fun _ _ => rfl)) de_int (fun _ _ => rfl)) (de_ix (de_ix (de_var (i := 0) rfl (pv 0)) de_int (fun _ _ => rfl)) de_int (fun _ _ => rfl))) de_non)))
theorem sc_many_classes : FnScope ["shifts"] ["shifts"] (defScope s_many_classes) := ⟨rfl, rfl, rfl, by decide +kernel, rfl, by decide +kernel, by decide +kernel⟩
theorem ok_many_classes {fd f_need_shifts f_size_of f_least_form : FuncData} (Fn : FunD K "many_classes" "many_classes" (defArgs s_many_classes) (defBody s_many_classes) (defScope s_many_classes) [] [] (He.ga K "many_classes") fd) (c_need_shifts : Got P w K mg base 4 f_need_shifts "need_shifts" ["part", "value"] (spF K mg 2 (.fz) m_need_shifts)) (c_size_of : Got P w K mg base 1 f_size_of "size_of" ["lattice"] (spF K mg 1 (.fz) m_size_of)) (c_least_form : Got P w K mg base 3 f_least_form "least_form" ["shifts"] (spF K mg 1 (.fz) m_least_form)) : FnG P w K mg base 5 (He.ga K "many_classes") fd ["shifts"] (spF K mg 1 (.fz) m_many_classes) :=
  fnFD (ω' := []) false Fn sc_many_classes fun cdv A outer s H E hr gd hcd => (dss_cons (ds_expr (wk_fzs _) (dc c_need_shifts (hr.mono (by decide : 4 ≤ 4)) gd letsB (da_cons de_str (da_cons (de_var (i := 0) rfl (pv 0)) da_nil)))) (dss_one (ds_ret (wk_fzs _) .nil (dc c_size_of (hr.mono (by decide : 1 ≤ 4)) gd letsB (da_cons (dc c_least_form (hr.mono (by decide : 3 ≤ 4)) gd letsB (da_cons (de_var (i := 0) rfl (pv 0)) da_nil)) da_nil)))))
theorem sc_line_both : FnScope ["one", "other", "few", "more", "a", "b", "c", "d", "first", "last", "many", "e", "_", "f", "lacking"] ["one", "other"] (defScope s_line_both) := ⟨rfl, rfl, rfl, by decide +kernel, rfl, by decide +kernel, by decide +kernel⟩
theorem ok_line_both {fd f_divisor f_least_form : FuncData} (Fn : FunD K "line_both" "line_both" (defArgs s_line_both) (defBody s_line_both) (defScope s_line_both) [] [] (He.ga K "line_both") fd) (m_len : mg "len" = none) (m_abs : mg "abs" = none) (c_divisor : Got P w K mg base 1 f_divisor "divisor" ["one", "other"] (spF K mg 2 (.fz) m_divisor)) (c_least_form : Got P w K mg base 3 f_least_form "least_form" ["shifts"] (spF K mg 1 (.fz) m_least_form)) : FnG P w K mg base 4 (He.ga K "line_both") fd ["one", "other"] (spF K mg 2 (.fz) m_line_both) :=
  fnFD (ω' := []) false Fn sc_line_both fun cdv A outer s H E hr gd hcd => (dss_cons (ds_asg (vs := [2, 3]) (wk_fzs _) (de_if (dt_cmp od_le (db cd_len m_len bt_len (da_cons (de_var (i := 0) rfl (pv 0)) da_nil)) (db cd_len m_len bt_len (da_cons (de_var (i := 1) rfl (pv 1)) da_nil)) (nomark _)) (de_tup (da_cons (de_var (i := 0) rfl (pv 0)) (da_cons (de_var (i := 1) rfl (pv 1)) da_nil))) (de_tup (da_cons (de_var (i := 1) rfl (pv 1)) (da_cons (de_var (i := 0) rfl (pv 0)) da_nil)))) (dg_tup rfl (dgs_cons (dg_name (i := 2) rfl (pg_name (i := 2) sc_line_both.nd rfl (by first | exact .inl rfl | exact .inr rfl))) (dgs_cons (dg_name (i := 3) rfl (pg_name (i := 3) sc_line_both.nd rfl (by first | exact .inl rfl | exact .inr rfl))) dgs_nil)))) (dss_cons (ds_if (wk_fzs _) (dt_cmp (od_eq hr.units) (de_var (i := 2) rfl (pv 2)) (de_tup da_nil) (nomark _)) (dss_one (ds_ret (wk_fzs _) .nil (de_tup da_nil))) dss_nil) (dss_cons (ds_asg (vs := [4, 5]) (wk_fzs _) (de_ix (de_var (i := 2) rfl (pv 2)) de_int (fun _ _ => rfl)) (dg_tup rfl (dgs_cons (dg_name (i := 4) rfl (pg_name (i := 4) sc_line_both.nd rfl (by first | exact .inl rfl | exact .inr rfl))) (dgs_cons (dg_name (i := 5) rfl (pg_name (i := 5) sc_line_both.nd rfl (by first | exact .inl rfl | exact .inr rfl))) dgs_nil)))) (dss_cons (ds_if (wk_fzs _) (dt_cmp (od_eq hr.units) (db cd_len m_len bt_len (da_cons (de_var (i := 3) rfl (pv 3)) da_nil)) de_int (nomark _)) (dss_cons (ds_asg (vs := [6, 7]) (wk_fzs _) (de_ix (de_var (i := 3) rfl (pv 3)) de_int (fun _ _ => rfl)) (dg_tup rfl (dgs_cons (dg_name (i := 6) rfl (pg_name (i := 6) sc_line_both.nd rfl (by first | exact .inl rfl | exact .inr rfl))) (dgs_cons (dg_name (i := 7) rfl (pg_name (i := 7) sc_line_both.nd rfl (by first | exact .inl rfl | exact .inr rfl))) dgs_nil)))) (dss_cons (ds_if (wk_fzs _) (dt_cmp (od_ne hr.units) (de_op od_mulA (de_var (i := 4) rfl (pv 4)) (de_var (i := 7) rfl (pv 7))) (de_op od_mulA (de_var (i := 5) rfl (pv 5)) (de_var (i := 6) rfl (pv 6))) (nomark _)) (dss_one (ds_ret (wk_fzs _) .nil (de_tup da_nil))) dss_nil) (dss_cons (ds_asg (vs := [8, 9]) (wk_fzs _) (de_if (dt_cmp (od_ne hr.units) (de_var (i := 4) rfl (pv 4)) de_int (nomark _)) (de_tup (da_cons (db cd_abs m_abs bt_abs (da_cons (de_var (i := 4) rfl (pv 4)) da_nil)) (da_cons (db cd_abs m_abs bt_abs (da_cons (de_var (i := 6) rfl (pv 6)) da_nil)) da_nil))) (de_tup (da_cons (db cd_abs m_abs bt_abs (da_cons (de_var (i := 5) rfl (pv 5)) da_nil)) (da_cons (db cd_abs m_abs bt_abs (da_cons (de_var (i := 7) rfl (pv 7)) da_nil)) da_nil)))) (dg_tup rfl (dgs_cons (dg_name (i := 8) rfl (pg_name (i := 8) sc_line_both.nd rfl (by first | exact .inl rfl | exact .inr rfl))) (dgs_cons (dg_name (i := 9) rfl (pg_name (i := 9) sc_line_both.nd rfl (by first | exact .inl rfl | exact .inr rfl))) dgs_nil)))) (dss_cons (ds_set (i := 10) (wk_fzs _) sc_line_both.nd rfl (by first | exact .inl rfl | exact .inr rfl) (de_op od_divW (de_var (i := 9) rfl (pv 9)) (dc c_divisor (hr.mono (by decide : 1 ≤ 3)) gd letsB (da_cons (de_var (i := 8) rfl (pv 8)) (da_cons (de_var (i := 9) rfl (pv 9)) da_nil))))) (dss_one (ds_ret (wk_fzs _) .nil (dc c_least_form (hr.mono (by decide : 3 ≤ 3)) gd letsB (da_cons (de_lst (da_cons (de_tup (da_cons (de_op od_mulA (de_var (i := 4) rfl (pv 4)) (de_var (i := 10) rfl (pv 10))) (da_cons (de_op od_mulA (de_var (i := 5) rfl (pv 5)) (de_var (i := 10) rfl (pv 10))) da_nil))) da_nil)) da_nil)))))))) dss_nil) (dss_cons (ds_asg (vs := [6, 11, 12, 13]) (wk_fzs _) (de_var (i := 3) rfl (pv 3)) (dg_tup rfl (dgs_cons (dg_tup rfl (dgs_cons (dg_name (i := 6) rfl (pg_name (i := 6) sc_line_both.nd rfl (by first | exact .inl rfl | exact .inr rfl))) (dgs_cons (dg_name (i := 11) rfl (pg_name (i := 11) sc_line_both.nd rfl (by first | exact .inl rfl | exact .inr rfl))) dgs_nil))) (dgs_cons (dg_tup rfl (dgs_cons (dg_name (i := 12) rfl (pg_name (i := 12) sc_line_both.nd rfl (by first | exact .inl rfl | exact .inr rfl))) (dgs_cons (dg_name (i := 13) rfl (pg_name (i := 13) sc_line_both.nd rfl (by first | exact .inl rfl | exact .inr rfl))) dgs_nil))) dgs_nil)))) (dss_cons (ds_set (i := 10) (wk_fzs _) sc_line_both.nd rfl (by first | exact .inl rfl | exact .inr rfl) (de_op od_divW (de_var (i := 6) rfl (pv 6)) (dc c_divisor (hr.mono (by decide : 1 ≤ 3)) gd letsB (da_cons (de_var (i := 6) rfl (pv 6)) (da_cons (de_op od_mod (de_var (i := 4) rfl (pv 4)) (de_var (i := 6) rfl (pv 6))) da_nil))))) (dss_cons (ds_set (i := 14) (wk_fzs _) sc_line_both.nd rfl (by first | exact .inl rfl | exact .inr rfl) (de_op od_mod (de_op od_sub (de_op od_mulA (de_var (i := 10) rfl (pv 10)) (de_var (i := 5) rfl (pv 5))) (de_op od_mulA (de_op od_divW (de_op od_mulA (de_var (i := 10) rfl (pv 10)) (de_var (i := 4) rfl (pv 4))) (de_var (i := 6) rfl (pv 6))) (de_var (i := 11) rfl (pv 11)))) (de_var (i := 13) rfl (pv 13)))) (dss_cons (ds_set (i := 10) (wk_fzs _) sc_line_both.nd rfl (by first | exact .inl rfl | exact .inr rfl) (de_op od_mulA (de_var (i := 10) rfl (pv 10)) (de_op od_divW (de_var (i := 13) rfl (pv 13)) (dc c_divisor (hr.mono (by decide : 1 ≤ 3)) gd letsB (da_cons (de_var (i := 13) rfl (pv 13)) (da_cons (de_var (i := 14) rfl (pv 14)) da_nil)))))) (dss_one (ds_ret (wk_fzs _) .nil (dc c_least_form (hr.mono (by decide : 3 ≤ 3)) gd letsB (da_cons (de_lst (da_cons (de_tup (da_cons (de_op od_mulA (de_var (i := 4) rfl (pv 4)) (de_var (i := 10) rfl (pv 10))) (da_cons (de_op od_mulA (de_var (i := 5) rfl (pv 5)) (de_var (i := 10) rfl (pv 10))) da_nil))) da_nil)) da_nil))))))))))))
theorem sc_both_of : FnScope ["one", "other", "a", "b", "_", "d", "c", "e", "f", "step", "first", "wide", "high", "lacking", "x", "low", "its", "up"] ["one", "other"] (defScope s_both_of) := ⟨rfl, rfl, rfl, by decide +kernel, rfl, by decide +kernel, by decide +kernel⟩
theorem ok_both_of {fd f_line_both f_common f_divisor : FuncData} (Fn : FunD K "both_of" "both_of" (defArgs s_both_of) (defBody s_both_of) (defScope s_both_of) [] [] (He.ga K "both_of") fd) (m_len : mg "len" = none) (c_line_both : Got P w K mg base 4 f_line_both "line_both" ["one", "other"] (spF K mg 2 (.fz) m_line_both)) (c_common : Got P w K mg base 1 f_common "common" ["one", "other"] (spF K mg 2 (.fz) m_common)) (c_divisor : Got P w K mg base 1 f_divisor "divisor" ["one", "other"] (spF K mg 2 (.fz) m_divisor)) : FnG P w K mg base 5 (He.ga K "both_of") fd ["one", "other"] (spF K mg 2 (.fz) m_both_of) :=
  fnFD (ω' := []) false Fn sc_both_of fun cdv A outer s H E hr gd hcd => (dss_cons (ds_if (wk_fzs _) (DW.dt (dw_or (dt_cmp od_lt (db cd_len m_len bt_len (da_cons (de_var (i := 0) rfl (pv 0)) da_nil)) de_int (nomark _)) (dw_or1 (dt_cmp od_lt (db cd_len m_len bt_len (da_cons (de_var (i := 1) rfl (pv 1)) da_nil)) de_int (nomark _))))) (dss_one (ds_ret (wk_fzs _) .nil (dc c_line_both (hr.mono (by decide : 4 ≤ 4)) gd letsB (da_cons (de_var (i := 0) rfl (pv 0)) (da_cons (de_var (i := 1) rfl (pv 1)) da_nil))))) dss_nil) (dss_cons (ds_asg (vs := [2, 3, 4, 5]) (wk_fzs _) (de_var (i := 0) rfl (pv 0)) (dg_tup rfl (dgs_cons (dg_tup rfl (dgs_cons (dg_name (i := 2) rfl (pg_name (i := 2) sc_both_of.nd rfl (by first | exact .inl rfl | exact .inr rfl))) (dgs_cons (dg_name (i := 3) rfl (pg_name (i := 3) sc_both_of.nd rfl (by first | exact .inl rfl | exact .inr rfl))) dgs_nil))) (dgs_cons (dg_tup rfl (dgs_cons (dg_name (i := 4) rfl (pg_name (i := 4) sc_both_of.nd rfl (by first | exact .inl rfl | exact .inr rfl))) (dgs_cons (dg_name (i := 5) rfl (pg_name (i := 5) sc_both_of.nd rfl (by first | exact .inl rfl | exact .inr rfl))) dgs_nil))) dgs_nil)))) (dss_cons (ds_asg (vs := [4, 6, 7, 8]) (wk_fzs _) (de_var (i := 1) rfl (pv 1)) (dg_tup rfl (dgs_cons (dg_tup rfl (dgs_cons (dg_name (i := 6) rfl (pg_name (i := 6) sc_both_of.nd rfl (by first | exact .inl rfl | exact .inr rfl))) (dgs_cons (dg_name (i := 7) rfl (pg_name (i := 7) sc_both_of.nd rfl (by first | exact .inl rfl | exact .inr rfl))) dgs_nil))) (dgs_cons (dg_tup rfl (dgs_cons (dg_name (i := 4) rfl (pg_name (i := 4) sc_both_of.nd rfl (by first | exact .inl rfl | exact .inr rfl))) (dgs_cons (dg_name (i := 8) rfl (pg_name (i := 8) sc_both_of.nd rfl (by first | exact .inl rfl | exact .inr rfl))) dgs_nil))) dgs_nil)))) (dss_cons (ds_asg (vs := [4, 9, 10]) (wk_fzs _) (dc c_common (hr.mono (by decide : 1 ≤ 4)) gd letsB (da_cons (de_var (i := 5) rfl (pv 5)) (da_cons (de_var (i := 8) rfl (pv 8)) da_nil))) (dg_tup rfl (dgs_cons (dg_name (i := 9) rfl (pg_name (i := 9) sc_both_of.nd rfl (by first | exact .inl rfl | exact .inr rfl))) (dgs_cons (dg_name (i := 10) rfl (pg_name (i := 10) sc_both_of.nd rfl (by first | exact .inl rfl | exact .inr rfl))) (dgs_cons (dg_name (i := 4) rfl (pg_name (i := 4) sc_both_of.nd rfl (by first | exact .inl rfl | exact .inr rfl))) dgs_nil))))) (dss_cons (ds_par2 (i := 11) (j := 12) (wk_fzs _) rfl rfl rfl sc_both_of.nd (da_cons (de_op od_divW (de_op od_mulA (de_var (i := 2) rfl (pv 2)) (de_var (i := 6) rfl (pv 6))) (dc c_divisor (hr.mono (by decide : 1 ≤ 4)) gd letsB (da_cons (de_var (i := 2) rfl (pv 2)) (da_cons (de_var (i := 6) rfl (pv 6)) da_nil)))) (da_cons (de_op od_divW (de_op od_mulA (de_var (i := 5) rfl (pv 5)) (de_var (i := 8) rfl (pv 8))) (de_var (i := 9) rfl (pv 9))) da_nil))) (dss_cons (ds_set (i := 13) (wk_fzs _) sc_both_of.nd rfl (by first | exact .inl rfl | exact .inr rfl) (de_op od_mod (de_op od_sub (de_op od_mulA (de_op od_divW (de_var (i := 11) rfl (pv 11)) (de_var (i := 2) rfl (pv 2))) (de_var (i := 3) rfl (pv 3))) (de_op od_mulA (de_op od_divW (de_var (i := 11) rfl (pv 11)) (de_var (i := 6) rfl (pv 6))) (de_var (i := 7) rfl (pv 7)))) (de_var (i := 9) rfl (pv 9)))) (dss_cons (ds_set (i := 14) (wk_fzs _) sc_both_of.nd rfl (by first | exact .inl rfl | exact .inr rfl) (de_op od_mulA (de_var (i := 11) rfl (pv 11)) (de_op od_divW (de_var (i := 9) rfl (pv 9)) (dc c_divisor (hr.mono (by decide : 1 ≤ 4)) gd letsB (da_cons (de_var (i := 9) rfl (pv 9)) (da_cons (de_var (i := 13) rfl (pv 13)) da_nil)))))) (dss_cons (ds_par2 (i := 15) (j := 16) (wk_fzs _) rfl rfl rfl sc_both_of.nd (da_cons (de_op od_mulA (de_op od_divW (de_var (i := 14) rfl (pv 14)) (de_var (i := 2) rfl (pv 2))) (de_var (i := 3) rfl (pv 3))) (da_cons (de_op od_mulA (de_op od_divW (de_var (i := 14) rfl (pv 14)) (de_var (i := 6) rfl (pv 6))) (de_var (i := 7) rfl (pv 7))) da_nil))) (dss_cons (ds_set (i := 17) (wk_fzs _) sc_both_of.nd rfl (by first | exact .inl rfl | exact .inr rfl) (de_op od_add (de_var (i := 15) rfl (pv 15)) (de_op od_mulA (de_op od_mulA (de_op od_divW (de_op od_sub (de_var (i := 16) rfl (pv 16)) (de_var (i := 15) rfl (pv 15))) (de_var (i := 9) rfl (pv 9))) (de_var (i := 10) rfl (pv 10))) (de_var (i := 5) rfl (pv 5))))) (dss_one (ds_ret (wk_fzs _) .nil (de_tup (da_cons (de_tup (da_cons (de_var (i := 14) rfl (pv 14)) (da_cons (de_op od_mod (de_var (i := 17) rfl (pv 17)) (de_var (i := 12) rfl (pv 12))) da_nil))) (da_cons (de_tup (da_cons de_int (da_cons (de_var (i := 12) rfl (pv 12)) da_nil))) da_nil))))))))))))))
theorem sc_lattice_both : FnScope ["one", "other"] ["one", "other"] (defScope s_lattice_both) := ⟨rfl, rfl, rfl, by decide +kernel, rfl, by decide +kernel, by decide +kernel⟩
theorem ok_lattice_both {fd f_need_shifts f_both_of f_least_form : FuncData} (Fn : FunD K "lattice_both" "lattice_both" (defArgs s_lattice_both) (defBody s_lattice_both) (defScope s_lattice_both) [] [] (He.ga K "lattice_both") fd) (c_need_shifts : Got P w K mg base 4 f_need_shifts "need_shifts" ["part", "value"] (spF K mg 2 (.fz) m_need_shifts)) (c_both_of : Got P w K mg base 5 f_both_of "both_of" ["one", "other"] (spF K mg 2 (.fz) m_both_of)) (c_least_form : Got P w K mg base 3 f_least_form "least_form" ["shifts"] (spF K mg 1 (.fz) m_least_form)) : FnG P w K mg base 6 (He.ga K "lattice_both") fd ["one", "other"] (spF K mg 2 (.fz) m_lattice_both) :=
  fnFD (ω' := []) false Fn sc_lattice_both fun cdv A outer s H E hr gd hcd => (dss_cons (ds_expr (wk_fzs _) (dc c_need_shifts (hr.mono (by decide : 4 ≤ 5)) gd letsB (da_cons de_str (da_cons (de_var (i := 0) rfl (pv 0)) da_nil)))) (dss_cons (ds_expr (wk_fzs _) (dc c_need_shifts (hr.mono (by decide : 4 ≤ 5)) gd letsB (da_cons de_str (da_cons (de_var (i := 1) rfl (pv 1)) da_nil)))) (dss_one (ds_ret (wk_fzs _) .nil (dc c_both_of (hr.mono (by decide : 5 ≤ 5)) gd letsB (da_cons (dc c_least_form (hr.mono (by decide : 3 ≤ 5)) gd letsB (da_cons (de_var (i := 0) rfl (pv 0)) da_nil)) (da_cons (dc c_least_form (hr.mono (by decide : 3 ≤ 5)) gd letsB (da_cons (de_var (i := 1) rfl (pv 1)) da_nil)) da_nil)))))))
theorem sc__law_heard : FnScope ["ask", "caught", "error"] ["ask"] (defScope s__law_heard) := ⟨rfl, rfl, rfl, by decide +kernel, rfl, by decide +kernel, by decide +kernel⟩
theorem ok__law_heard {fd : FuncData} (Fn : FunD K "_law_heard" "_law_heard" (defArgs s__law_heard) (defBody s__law_heard) (defScope s__law_heard) [] [] (He.ga K "_law_heard") fd) (gc_SeamError : mg "SeamError" = some (.ref (He.ga K "SeamError"))) (tr_SeamError : tryB K ["BadValue", "BadNumber", "BadPattern", "Misfit", "BadText", "TooMany"] "SeamError" = true) (gx : ∀ z ∈ (["BadValue", "BadNumber", "BadPattern", "Misfit", "BadText", "TooMany"] : List Str), mg z = some (.ref (He.ga K z))) (xi_law_heard : excsB K ["BadValue", "BadNumber", "BadPattern", "Misfit", "BadText", "TooMany"] [("BadValue", ["SeamError"]), ("BadNumber", ["SeamError"]), ("BadPattern", ["SeamError"]), ("Misfit", ["SeamError"]), ("BadText", ["SeamError"]), ("TooMany", ["SeamError"])] ["BadValue", "BadNumber", "BadPattern", "Misfit", "BadText", "TooMany"] = true) (m_isinstance : mg "isinstance" = none) (gc_BadValue : mg "BadValue" = some (.ref (He.ga K "BadValue"))) (fx_part : fldXB K ["BadValue", "BadNumber", "BadPattern", "Misfit", "BadText", "TooMany"] "part" = true) (gc_BadNumber : mg "BadNumber" = some (.ref (He.ga K "BadNumber"))) (gc_BadPattern : mg "BadPattern" = some (.ref (He.ga K "BadPattern"))) (gc_Misfit : mg "Misfit" = some (.ref (He.ga K "Misfit"))) (gc_BadText : mg "BadText" = some (.ref (He.ga K "BadText"))) (fx_word : fldXB K ["BadValue", "BadNumber", "BadPattern", "Misfit", "BadText", "TooMany"] "word" = true) (fx_line : fldXB K ["BadValue", "BadNumber", "BadPattern", "Misfit", "BadText", "TooMany"] "line" = true) (gc_TooMany : mg "TooMany" = some (.ref (He.ga K "TooMany"))) (fx_most : fldXB K ["BadValue", "BadNumber", "BadPattern", "Misfit", "BadText", "TooMany"] "most" = true) (fx_what : fldXB K ["BadValue", "BadNumber", "BadPattern", "Misfit", "BadText", "TooMany"] "what" = true) : FnG P w K mg base 8 (He.ga K "_law_heard") fd ["ask"] (spH P w K mg base 7 0 0 (.fz) m__law_heard) :=
  fnHD (ω' := []) false Fn sc__law_heard fun cdv A outer s H E fa F0 g hr gd hcd ask => (dss_cons (ds_set (i := 1) (wk_fzs _) sc__law_heard.nd rfl (by first | exact .inl rfl | exact .inr rfl) de_non) (dss_cons (ds_try (i := 2) (j := 1) (exs := ["BadValue", "BadNumber", "BadPattern", "Misfit", "BadText", "TooMany"]) rfl rfl rfl sc__law_heard.nd rfl rfl rfl rfl (fun _ _ => pv 2) rfl rfl rfl gc_SeamError tr_SeamError gx (fun W pn xe tk po => (dss_one (ds_expr (Wk.refl _) (de_ask0 (j := 0) ask (hr.mono (by decide : 7 ≤ 7)) gd rfl (fun σ => passAt tk σ) (pv 0)))))) (dss_cons (ds_if (wk_fzs _) (dt_cmp od_isN (de_var (i := 1) rfl (pv 1)) de_non (nomark _)) (dss_one (ds_ret (wk_fzs _) .nil de_non)) dss_nil) (dss_cons (ds_if (wk_fzs _) (dt_truth (de_isiE (cs := ["BadValue", "BadNumber", "BadPattern", "Misfit", "BadText", "TooMany"]) (qs := ["BadValue", "BadNumber", "BadPattern", "Misfit", "BadText", "TooMany"]) (subs := [("BadValue", ["SeamError"]), ("BadNumber", ["SeamError"]), ("BadPattern", ["SeamError"]), ("Misfit", ["SeamError"]), ("BadText", ["SeamError"]), ("TooMany", ["SeamError"])]) (q := "BadValue") xi_law_heard (by rfl) rfl m_isinstance (de_var (i := 1) rfl (pv 1)) gc_BadValue)) (dss_one (ds_ret (wk_fzs _) .nil (de_tup (da_cons de_str (da_cons (de_fldX fx_part (de_var (i := 1) rfl (pv 1))) da_nil))))) dss_nil) (dss_cons (ds_if (wk_fzs _) (dt_truth (de_isiE (cs := ["BadValue", "BadNumber", "BadPattern", "Misfit", "BadText", "TooMany"]) (qs := ["BadValue", "BadNumber", "BadPattern", "Misfit", "BadText", "TooMany"]) (subs := [("BadValue", ["SeamError"]), ("BadNumber", ["SeamError"]), ("BadPattern", ["SeamError"]), ("Misfit", ["SeamError"]), ("BadText", ["SeamError"]), ("TooMany", ["SeamError"])]) (q := "BadNumber") xi_law_heard (by rfl) rfl m_isinstance (de_var (i := 1) rfl (pv 1)) gc_BadNumber)) (dss_one (ds_ret (wk_fzs _) .nil (de_tup (da_cons de_str (da_cons (de_fldX fx_part (de_var (i := 1) rfl (pv 1))) da_nil))))) dss_nil) (dss_cons (ds_if (wk_fzs _) (dt_truth (de_isiE (cs := ["BadValue", "BadNumber", "BadPattern", "Misfit", "BadText", "TooMany"]) (qs := ["BadValue", "BadNumber", "BadPattern", "Misfit", "BadText", "TooMany"]) (subs := [("BadValue", ["SeamError"]), ("BadNumber", ["SeamError"]), ("BadPattern", ["SeamError"]), ("Misfit", ["SeamError"]), ("BadText", ["SeamError"]), ("TooMany", ["SeamError"])]) (q := "BadPattern") xi_law_heard (by rfl) rfl m_isinstance (de_var (i := 1) rfl (pv 1)) gc_BadPattern)) (dss_one (ds_ret (wk_fzs _) .nil (de_tup (da_cons de_str (da_cons (de_fldX fx_part (de_var (i := 1) rfl (pv 1))) da_nil))))) dss_nil) (dss_cons (ds_if (wk_fzs _) (dt_truth (de_isiE (cs := ["BadValue", "BadNumber", "BadPattern", "Misfit", "BadText", "TooMany"]) (qs := ["BadValue", "BadNumber", "BadPattern", "Misfit", "BadText", "TooMany"]) (subs := [("BadValue", ["SeamError"]), ("BadNumber", ["SeamError"]), ("BadPattern", ["SeamError"]), ("Misfit", ["SeamError"]), ("BadText", ["SeamError"]), ("TooMany", ["SeamError"])]) (q := "Misfit") xi_law_heard (by rfl) rfl m_isinstance (de_var (i := 1) rfl (pv 1)) gc_Misfit)) (dss_one (ds_ret (wk_fzs _) .nil (de_tup (da_cons de_str (da_cons (de_fldX fx_part (de_var (i := 1) rfl (pv 1))) da_nil))))) dss_nil) (dss_cons (ds_if (wk_fzs _) (dt_truth (de_isiE (cs := ["BadValue", "BadNumber", "BadPattern", "Misfit", "BadText", "TooMany"]) (qs := ["BadValue", "BadNumber", "BadPattern", "Misfit", "BadText", "TooMany"]) (subs := [("BadValue", ["SeamError"]), ("BadNumber", ["SeamError"]), ("BadPattern", ["SeamError"]), ("Misfit", ["SeamError"]), ("BadText", ["SeamError"]), ("TooMany", ["SeamError"])]) (q := "BadText") xi_law_heard (by rfl) rfl m_isinstance (de_var (i := 1) rfl (pv 1)) gc_BadText)) (dss_one (ds_ret (wk_fzs _) .nil (de_tup (da_cons de_str (da_cons (de_fldX fx_line (de_var (i := 1) rfl (pv 1))) (da_cons (de_fldX fx_word (de_var (i := 1) rfl (pv 1))) da_nil)))))) dss_nil) (dss_one (ds_ret (wk_fzs _) .nil (de_if (dt_truth (de_isiE (cs := ["BadValue", "BadNumber", "BadPattern", "Misfit", "BadText", "TooMany"]) (qs := ["BadValue", "BadNumber", "BadPattern", "Misfit", "BadText", "TooMany"]) (subs := [("BadValue", ["SeamError"]), ("BadNumber", ["SeamError"]), ("BadPattern", ["SeamError"]), ("Misfit", ["SeamError"]), ("BadText", ["SeamError"]), ("TooMany", ["SeamError"])]) (q := "TooMany") xi_law_heard (by rfl) rfl m_isinstance (de_var (i := 1) rfl (pv 1)) gc_TooMany)) (de_tup (da_cons de_str (da_cons (de_fldX fx_what (de_var (i := 1) rfl (pv 1))) (da_cons (de_fldX fx_most (de_var (i := 1) rfl (pv 1))) da_nil)))) (de_tup (da_cons de_str da_nil)))))))))))))
theorem sc__law_refused_right : FnScope ["pen", "lap", "odd", "bad", "heard"] ["pen"] (defScope s__law_refused_right) := ⟨rfl, rfl, rfl, by decide +kernel, rfl, by decide +kernel, by decide +kernel⟩
theorem ok__law_refused_right {fd f__law_pick f__law_heard f_in_lattice f_lattice f_many_classes f_rest_of f_lattice_both : FuncData} (Fn : FunD K "_law_refused_right" "_law_refused_right" (defArgs s__law_refused_right) (defBody s__law_refused_right) (defScope s__law_refused_right) [] [] (He.ga K "_law_refused_right") fd) (m_range : mg "range" = none) (c__law_pick : Got P w K mg base 2 f__law_pick "_law_pick" ["pen", "some"] (spP K mg 1 (.fz) m__law_pick)) (c__law_heard : GotH P w K mg 8 f__law_heard "_law_heard" ["ask"] 7 0 0 (.fz) m__law_heard) (bm : BmOk K mg base) (lam__law_refused_right : lamB K (He.ga K "_law_refused_right") = true) (c_in_lattice : Got P w K mg base 5 f_in_lattice "in_lattice" ["shifts", "shift"] (spF K mg 2 (.fz) m_in_lattice)) (c_lattice : Got P w K mg base 5 f_lattice "lattice" ["shifts"] (spF K mg 1 (.fz) m_lattice)) (c_many_classes : Got P w K mg base 5 f_many_classes "many_classes" ["shifts"] (spF K mg 1 (.fz) m_many_classes)) (c_rest_of : Got P w K mg base 5 f_rest_of "rest_of" ["shifts", "shift"] (spF K mg 2 (.fz) m_rest_of)) (c_lattice_both : Got P w K mg base 6 f_lattice_both "lattice_both" ["one", "other"] (spF K mg 2 (.fz) m_lattice_both)) : FnG P w K mg base 9 (He.ga K "_law_refused_right") fd ["pen"] (spP K mg 0 (.fz) m__law_refused_right) :=
  fnPD (ω' := fun _ => []) Fn sc__law_refused_right fun cdv A outer s H E a hr gd hcd => (dss_cons (ds_for (vs := [1]) (wk_fzs _) passB rfl (di_rng1 rfl m_range (da_cons de_int da_nil)) (dg_name (i := 1) rfl (pg_name (i := 1) sc__law_refused_right.nd rfl (by first | exact .inl rfl | exact .inr rfl))) (dss_cons (ds_set (i := 2) (wk_fzs _) sc__law_refused_right.nd rfl (by first | exact .inl rfl | exact .inr rfl) (dcP c__law_pick (hr.mono (by decide : 2 ≤ 8)) gd letsB (i := 0) rfl rfl (pv 0) (da_cons (de_lst (da_cons de_non (da_cons de_int (da_cons de_str (da_cons (de_fz de_newK) (da_cons (de_lst (da_cons de_non da_nil)) (da_cons (de_lst (da_cons (de_tup (da_cons de_int da_nil)) da_nil)) (da_cons (de_lst (da_cons (de_tup (da_cons de_int (da_cons de_int (da_cons de_int da_nil)))) da_nil)) (da_cons (de_lst (da_cons (de_lst (da_cons de_int (da_cons de_int da_nil))) da_nil)) (da_cons (de_lst (da_cons (de_tup (da_cons de_bl (da_cons de_int da_nil))) da_nil)) (da_cons (de_lst (da_cons (de_tup (da_cons de_int (da_cons de_str da_nil))) da_nil)) (da_cons (de_lst (da_cons (de_tup (da_cons de_int (da_cons de_int da_nil))) (da_cons de_int da_nil))) (da_cons (de_op od_mulA (de_lst (da_cons (de_tup (da_cons de_int (da_cons de_int da_nil))) da_nil)) de_int) (da_cons (de_lst (da_cons (de_tup (da_cons (de_op od_add (de_op od_pow de_int de_int) de_int) (da_cons de_int da_nil))) da_nil)) da_nil)))))))))))))) da_nil))) (dss_cons (ds_set (i := 3) (wk_fzs _) sc__law_refused_right.nd rfl (by first | exact .inl rfl | exact .inr rfl) (dcP c__law_pick (hr.mono (by decide : 2 ≤ 8)) gd letsB (i := 0) rfl rfl (pv 0) (da_cons (de_lst (da_cons de_non (da_cons de_int (da_cons (de_tup (da_cons de_int da_nil)) (da_cons (de_lst (da_cons de_int (da_cons de_int da_nil))) (da_cons (de_tup (da_cons de_bl (da_cons de_int da_nil))) (da_cons (de_tup (da_cons de_int (da_cons de_int (da_cons de_int da_nil)))) (da_cons de_str (da_cons (de_tup (da_cons de_int (da_cons (de_op od_sub (de_op od_sub de_int (de_op od_pow de_int de_int)) de_int) da_nil))) da_nil))))))))) da_nil))) (dss_cons (ds_set (i := 4) (wk_fzs _) sc__law_refused_right.nd rfl (by first | exact .inl rfl | exact .inr rfl) (de_lst (da_cons (de_callH (ps := []) (bs := [false, true, true, true, true]) (zvs := []) (zds := []) c__law_heard bm (hr.mono (by decide : 8 ≤ 8)) gd letsB (lamK_of Fn hcd lam__law_refused_right) (lamD_by (by rfl)) (by decide) (fun _ => rfl) (lamBd_0 fun _ _ _ _ _ _ us h => match us, h with | [], _ => rfl) (by decide) (constInts (n := 0) (by rfl) (by rfl)) (fun _ => .nil) (by rfl) (by decide) (fun A1 outer1 s1 HZ E1 fl cl hr gd => (dc c_lattice (hr.mono (by decide : 5 ≤ 6)) gd letsL (da_cons (de_var (i := 2) rfl (pv 2)) da_nil))) da_nil) (da_cons (de_callH (ps := ["a"]) (bs := [false, true, true, true, true]) (zvs := [.int 0]) (zds := [.int 0]) c__law_heard bm (hr.mono (by decide : 8 ≤ 8)) gd letsB (lamK_of Fn hcd lam__law_refused_right) (lamD_by (by rfl)) (by decide) (fun _ => rfl) (lamBd_d (nz := 1) (by decide) fun _ _ _ _ _ _ _ zs us h h2 => match us, zs, h, h2 with | [], [_], _, _ => ⟨_, rfl, rfl⟩) (by decide) (constInts (n := 1) (by rfl) (by rfl)) (fun _ => .cons (.int 0) (.nil)) (by rfl) (by decide) (fun A1 outer1 s1 HZ E1 fl cl hr gd => (dc c_in_lattice (hr.mono (by decide : 5 ≤ 6)) gd letsL (da_cons (de_var (i := 2) rfl (pv 2)) (da_cons (de_var (i := 3) rfl (pv 3)) da_nil)))) da_nil) da_nil)))) (dss_cons (ds_set (i := 4) (wk_fzs _) sc__law_refused_right.nd rfl (by first | exact .inl rfl | exact .inr rfl) (de_op od_add (de_var (i := 4) rfl (pv 4)) (de_lst (da_cons (de_callH (ps := ["a", "b"]) (bs := [false, true, true, true, true]) (zvs := [.int 0, .int 0]) (zds := [.int 0, .int 0]) c__law_heard bm (hr.mono (by decide : 8 ≤ 8)) gd letsB (lamK_of Fn hcd lam__law_refused_right) (lamD_by (by rfl)) (by decide) (fun _ => rfl) (lamBd_d (nz := 2) (by decide) fun _ _ _ _ _ _ _ zs us h h2 => match us, zs, h, h2 with | [], [_, _], _, _ => ⟨_, rfl, rfl⟩) (by decide) (constInts (n := 2) (by rfl) (by rfl)) (fun _ => .cons (.int 0) (.cons (.int 0) (.nil))) (by rfl) (by decide) (fun A1 outer1 s1 HZ E1 fl cl hr gd => (dc c_rest_of (hr.mono (by decide : 5 ≤ 6)) gd letsL (da_cons (de_var (i := 2) rfl (pv 2)) (da_cons (de_var (i := 3) rfl (pv 3)) da_nil)))) da_nil) (da_cons (de_callH (ps := ["a", "b", "c"]) (bs := [false, true, true, true, true]) (zvs := [.int 0, .int 0, .int 0]) (zds := [.int 0, .int 0, .int 0]) c__law_heard bm (hr.mono (by decide : 8 ≤ 8)) gd letsB (lamK_of Fn hcd lam__law_refused_right) (lamD_by (by rfl)) (by decide) (fun _ => rfl) (lamBd_d (nz := 3) (by decide) fun _ _ _ _ _ _ _ zs us h h2 => match us, zs, h, h2 with | [], [_, _, _], _, _ => ⟨_, rfl, rfl⟩) (by decide) (constInts (n := 3) (by rfl) (by rfl)) (fun _ => .cons (.int 0) (.cons (.int 0) (.cons (.int 0) (.nil)))) (by rfl) (by decide) (fun A1 outer1 s1 HZ E1 fl cl hr gd => (dc c_many_classes (hr.mono (by decide : 5 ≤ 6)) gd letsL (da_cons (de_var (i := 2) rfl (pv 2)) da_nil))) da_nil) da_nil))))) (dss_cons (ds_if (wk_fzs _) (dt_cmp (od_ne hr.units) (de_var (i := 4) rfl (pv 4)) (de_op od_mulA (de_lst (da_cons (de_tup (da_cons de_str (da_cons de_str da_nil))) da_nil)) de_int) (nomark _)) (dss_one (ds_ret (wk_fzs _) (.pin .nil) de_bl)) dss_nil) (dss_cons (ds_set (i := 4) (wk_fzs _) sc__law_refused_right.nd rfl (by first | exact .inl rfl | exact .inr rfl) (de_lst (da_cons (de_callH (ps := []) (bs := [false, true, true, true, true]) (zvs := []) (zds := []) c__law_heard bm (hr.mono (by decide : 8 ≤ 8)) gd letsB (lamK_of Fn hcd lam__law_refused_right) (lamD_by (by rfl)) (by decide) (fun _ => rfl) (lamBd_0 fun _ _ _ _ _ _ us h => match us, h with | [], _ => rfl) (by decide) (constInts (n := 0) (by rfl) (by rfl)) (fun _ => .nil) (by rfl) (by decide) (fun A1 outer1 s1 HZ E1 fl cl hr gd => (dc c_in_lattice (hr.mono (by decide : 5 ≤ 6)) gd letsL (da_cons (de_lst da_nil) (da_cons (de_var (i := 3) rfl (pv 3)) da_nil)))) da_nil) (da_cons (de_callH (ps := ["a"]) (bs := [false, true, true, true, true]) (zvs := [.int 0]) (zds := [.int 0]) c__law_heard bm (hr.mono (by decide : 8 ≤ 8)) gd letsB (lamK_of Fn hcd lam__law_refused_right) (lamD_by (by rfl)) (by decide) (fun _ => rfl) (lamBd_d (nz := 1) (by decide) fun _ _ _ _ _ _ _ zs us h h2 => match us, zs, h, h2 with | [], [_], _, _ => ⟨_, rfl, rfl⟩) (by decide) (constInts (n := 1) (by rfl) (by rfl)) (fun _ => .cons (.int 0) (.nil)) (by rfl) (by decide) (fun A1 outer1 s1 HZ E1 fl cl hr gd => (dc c_rest_of (hr.mono (by decide : 5 ≤ 6)) gd letsL (da_cons (de_lst (da_cons (de_tup (da_cons de_int (da_cons de_int da_nil))) da_nil)) (da_cons (de_var (i := 3) rfl (pv 3)) da_nil)))) da_nil) da_nil)))) (dss_cons (ds_set (i := 4) (wk_fzs _) sc__law_refused_right.nd rfl (by first | exact .inl rfl | exact .inr rfl) (de_op od_add (de_var (i := 4) rfl (pv 4)) (de_lst (da_cons (de_callH (ps := ["a", "b"]) (bs := [false, true, true, true, true]) (zvs := [.int 0, .int 0]) (zds := [.int 0, .int 0]) c__law_heard bm (hr.mono (by decide : 8 ≤ 8)) gd letsB (lamK_of Fn hcd lam__law_refused_right) (lamD_by (by rfl)) (by decide) (fun _ => rfl) (lamBd_d (nz := 2) (by decide) fun _ _ _ _ _ _ _ zs us h h2 => match us, zs, h, h2 with | [], [_, _], _, _ => ⟨_, rfl, rfl⟩) (by decide) (constInts (n := 2) (by rfl) (by rfl)) (fun _ => .cons (.int 0) (.cons (.int 0) (.nil))) (by rfl) (by decide) (fun A1 outer1 s1 HZ E1 fl cl hr gd => (dc c_lattice_both (hr.mono (by decide : 6 ≤ 6)) gd letsL (da_cons (de_var (i := 2) rfl (pv 2)) (da_cons (de_var (i := 2) rfl (pv 2)) da_nil)))) da_nil) (da_cons (de_callH (ps := ["a", "b", "c"]) (bs := [false, true, true, true, true]) (zvs := [.int 0, .int 0, .int 0]) (zds := [.int 0, .int 0, .int 0]) c__law_heard bm (hr.mono (by decide : 8 ≤ 8)) gd letsB (lamK_of Fn hcd lam__law_refused_right) (lamD_by (by rfl)) (by decide) (fun _ => rfl) (lamBd_d (nz := 3) (by decide) fun _ _ _ _ _ _ _ zs us h h2 => match us, zs, h, h2 with | [], [_, _, _], _, _ => ⟨_, rfl, rfl⟩) (by decide) (constInts (n := 3) (by rfl) (by rfl)) (fun _ => .cons (.int 0) (.cons (.int 0) (.cons (.int 0) (.nil)))) (by rfl) (by decide) (fun A1 outer1 s1 HZ E1 fl cl hr gd => (dc c_lattice_both (hr.mono (by decide : 6 ≤ 6)) gd letsL (da_cons (de_lst da_nil) (da_cons (de_var (i := 2) rfl (pv 2)) da_nil)))) da_nil) da_nil))))) (dss_one (ds_if (wk_fzs _) (dt_cmp (od_ne hr.units) (de_var (i := 4) rfl (pv 4)) (de_lst (da_cons (de_tup (da_cons de_str (da_cons de_str da_nil))) (da_cons (de_tup (da_cons de_str (da_cons de_str da_nil))) (da_cons (de_tup (da_cons de_str (da_cons de_str da_nil))) (da_cons (de_tup (da_cons de_str (da_cons de_str da_nil))) da_nil))))) (nomark _)) (dss_one (ds_ret (wk_fzs _) (.pin .nil) de_bl)) dss_nil)))))))))) (dss_one (ds_ret (wk_fzs _) (.pin .nil) (de_cmp (od_eq hr.units) (dc c_lattice (hr.mono (by decide : 5 ≤ 8)) gd letsB (da_cons (de_op od_mulA (de_lst (da_cons (de_tup (da_cons de_int (da_cons de_int da_nil))) da_nil)) de_int) da_nil)) (de_tup (da_cons (de_tup (da_cons de_int (da_cons de_int da_nil))) da_nil)) (nomark _)))))
theorem sc__law_some_shifts : FnScope ["pen", "lap"] ["pen"] (defScope s__law_some_shifts) := ⟨rfl, rfl, rfl, by decide +kernel, rfl, by decide +kernel, by decide +kernel⟩
theorem ok__law_some_shifts {fd f__law_draw : FuncData} (Fn : FunD K "_law_some_shifts" "_law_some_shifts" (defArgs s__law_some_shifts) (defBody s__law_some_shifts) (defScope s__law_some_shifts) [] [] (He.ga K "_law_some_shifts") fd) (c__law_draw : Got P w K mg base 1 f__law_draw "_law_draw" ["pen", "many"] (spP K mg 1 (.fz) m__law_draw)) (m_range : mg "range" = none) : FnG P w K mg base 2 (He.ga K "_law_some_shifts") fd ["pen"] (spP K mg 0 (.fz) m__law_some_shifts) :=
  fnPD (ω' := fun _ => []) Fn sc__law_some_shifts fun cdv A outer s H E a hr gd hcd => (dss_one (ds_ret (wk_fzs _) (.pin .nil) (de_fz (de_lc (own := [("lap", 1)]) rfl sc__law_some_shifts.nd (hv_cons rfl hv_nil) (di_rng1 rfl m_range (da_cons (dcP c__law_draw (hr.mono (by decide : 1 ≤ 1)) gd letsB (i := 0) rfl rfl (pv 0) (da_cons de_int da_nil)) da_nil)) (blkOk_by (by rfl)) (fun s' H' C' cl fp => (dg_name (i := 1) rfl (pg_name (i := 1) sc__law_some_shifts.nd rfl (by first | exact .inl rfl | exact .inr rfl)))) (fun s' H' C' cl fp => dts_nil) (fun s' H' C' cl fp => (de_tup (da_cons (de_op od_sub (dcP c__law_draw (hr.mono (by decide : 1 ≤ 1)) gd lets0 (i := 0) rfl rfl (pv 0) (da_cons de_int da_nil)) de_int) (da_cons (de_op od_sub (dcP c__law_draw (hr.mono (by decide : 1 ≤ 1)) gd lets0 (i := 0) rfl rfl (pv 0) (da_cons de_int da_nil)) de_int) da_nil))))))))
theorem sc__law_reduced : FnScope ["basis", "shift", "x", "y", "a", "b", "many"] ["basis", "shift"] (defScope s__law_reduced) := ⟨rfl, rfl, rfl, by decide +kernel, rfl, by decide +kernel, by decide +kernel⟩
theorem ok__law_reduced {fd : FuncData} (Fn : FunD K "_law_reduced" "_law_reduced" (defArgs s__law_reduced) (defBody s__law_reduced) (defScope s__law_reduced) [] [] (He.ga K "_law_reduced") fd)  : FnG P w K mg base 1 (He.ga K "_law_reduced") fd ["basis", "shift"] (spF K mg 2 (.fz) m__law_reduced) :=
  fnFD (ω' := []) false Fn sc__law_reduced fun cdv A outer s H E hr gd hcd => (dss_cons (ds_asg (vs := [2, 3]) (wk_fzs _) (de_var (i := 1) rfl (pv 1)) (dg_tup rfl (dgs_cons (dg_name (i := 2) rfl (pg_name (i := 2) sc__law_reduced.nd rfl (by first | exact .inl rfl | exact .inr rfl))) (dgs_cons (dg_name (i := 3) rfl (pg_name (i := 3) sc__law_reduced.nd rfl (by first | exact .inl rfl | exact .inr rfl))) dgs_nil)))) (dss_cons (ds_for (vs := [4, 5]) (wk_fzs _) passB rfl (di_all (de_var (i := 0) rfl (pv 0))) (dg_tup rfl (dgs_cons (dg_name (i := 4) rfl (pg_name (i := 4) sc__law_reduced.nd rfl (by first | exact .inl rfl | exact .inr rfl))) (dgs_cons (dg_name (i := 5) rfl (pg_name (i := 5) sc__law_reduced.nd rfl (by first | exact .inl rfl | exact .inr rfl))) dgs_nil))) (dss_cons (ds_set (i := 6) (wk_fzs _) sc__law_reduced.nd rfl (by first | exact .inl rfl | exact .inr rfl) (de_if (dt_cmp od_gt (de_var (i := 4) rfl (pv 4)) de_int (nomark _)) (de_op od_divW (de_var (i := 2) rfl (pv 2)) (de_var (i := 4) rfl (pv 4))) (de_op od_divW (de_var (i := 3) rfl (pv 3)) (de_var (i := 5) rfl (pv 5))))) (dss_one (ds_par2 (i := 2) (j := 3) (wk_fzs _) rfl rfl rfl sc__law_reduced.nd (da_cons (de_op od_sub (de_var (i := 2) rfl (pv 2)) (de_op od_mulA (de_var (i := 6) rfl (pv 6)) (de_var (i := 4) rfl (pv 4)))) (da_cons (de_op od_sub (de_var (i := 3) rfl (pv 3)) (de_op od_mulA (de_var (i := 6) rfl (pv 6)) (de_var (i := 5) rfl (pv 5)))) da_nil)))))) (dss_one (ds_ret (wk_fzs _) .nil (de_tup (da_cons (de_var (i := 2) rfl (pv 2)) (da_cons (de_var (i := 3) rfl (pv 3)) da_nil)))))))
theorem sc_law : FnScope ["script", "pen", "turn", "one", "other", "found", "forms", "size", "lap", "x", "y", "due", "many", "its", "joint", "shift"] ["script"] (defScope s_law) := ⟨rfl, rfl, rfl, by decide +kernel, rfl, by decide +kernel, by decide +kernel⟩
theorem ok_law {fd f__law_pen f__law_some_shifts f_lattice f_lattice_both f__law_draw f__law_reduced f__law_refused_right : FuncData} (Fn : FunD K "law" "law" (defArgs s_law) (defBody s_law) (defScope s_law) [] [] (He.ga K "law") fd) (c__law_pen : Got P w K mg base 1 f__law_pen "_law_pen" ["script"] (spF K mg 1 (.lst .fz) m__law_pen)) (m_range : mg "range" = none) (c__law_some_shifts : Got P w K mg base 2 f__law_some_shifts "_law_some_shifts" ["pen"] (spP K mg 0 (.fz) m__law_some_shifts)) (c_lattice : Got P w K mg base 5 f_lattice "lattice" ["shifts"] (spF K mg 1 (.fz) m_lattice)) (c_lattice_both : Got P w K mg base 6 f_lattice_both "lattice_both" ["one", "other"] (spF K mg 2 (.fz) m_lattice_both)) (kb_lattice_both_other_one : KwB K f_lattice_both ["one", "other"] ["other", "one"] [1, 0]) (m_list : mg "list" = none) (c__law_draw : Got P w K mg base 1 f__law_draw "_law_draw" ["pen", "many"] (spP K mg 1 (.fz) m__law_draw)) (c__law_reduced : Got P w K mg base 1 f__law_reduced "_law_reduced" ["basis", "shift"] (spF K mg 2 (.fz) m__law_reduced)) (m_len : mg "len" = none) (c__law_refused_right : Got P w K mg base 9 f__law_refused_right "_law_refused_right" ["pen"] (spP K mg 0 (.fz) m__law_refused_right)) : FnG P w K mg base 10 (He.ga K "law") fd ["script"] (spF K mg 1 (.fz) m_law) :=
  fnFD (ω' := []) false Fn sc_law fun cdv A outer s H E hr gd hcd => (dss_cons (ds_set (i := 1) (wk_fzs _) sc_law.nd rfl (by first | exact .inl rfl | exact .inr rfl) (dc c__law_pen (hr.mono (by decide : 1 ≤ 9)) gd letsB (da_cons (de_var (i := 0) rfl (pv 0)) da_nil))) (dss_cons (ds_for (vs := [2]) (wk_fzs _) passB rfl (di_rng1 rfl m_range (da_cons de_int da_nil)) (dg_name (i := 2) rfl (pg_name (i := 2) sc_law.nd rfl (by first | exact .inl rfl | exact .inr rfl))) (dss_cons (ds_par2 (i := 3) (j := 4) (wk_fzs _) rfl rfl rfl sc_law.nd (da_cons (dcP c__law_some_shifts (hr.mono (by decide : 2 ≤ 9)) gd letsB (i := 1) rfl rfl (pv 1) da_nil) (da_cons (dcP c__law_some_shifts (hr.mono (by decide : 2 ≤ 9)) gd letsB (i := 1) rfl rfl (pv 1) da_nil) da_nil))) (dss_cons (ds_asg (vs := [5, 6]) (wk_fzs _) (de_tup (da_cons (dc c_lattice_both (hr.mono (by decide : 6 ≤ 9)) gd letsB (da_cons (de_var (i := 3) rfl (pv 3)) (da_cons (de_var (i := 4) rfl (pv 4)) da_nil))) (da_cons (de_lst (da_cons (dc c_lattice (hr.mono (by decide : 5 ≤ 9)) gd letsB (da_cons (de_var (i := 3) rfl (pv 3)) da_nil)) (da_cons (dc c_lattice (hr.mono (by decide : 5 ≤ 9)) gd letsB (da_cons (de_var (i := 4) rfl (pv 4)) da_nil)) da_nil))) da_nil))) (dg_tup rfl (dgs_cons (dg_name (i := 5) rfl (pg_name (i := 5) sc_law.nd rfl (by first | exact .inl rfl | exact .inr rfl))) (dgs_cons (dg_name (i := 6) rfl (pg_name (i := 6) sc_law.nd rfl (by first | exact .inl rfl | exact .inr rfl))) dgs_nil)))) (dss_cons (ds_if (wk_fzs _) (DW.dt (dw_or (dt_cmp (od_ne hr.units) (dck c_lattice_both kb_lattice_both_other_one (hr.mono (by decide : 6 ≤ 9)) gd letsB (dk_cons (de_var (i := 3) rfl (pv 3)) (dk_cons (de_var (i := 4) rfl (pv 4)) dk_nil)) (fun xs h => match xs, h with | [_, _], _ => rfl)) (de_var (i := 5) rfl (pv 5)) (nomark _)) (dw_or (dt_cmp (od_ne hr.units) (dc c_lattice (hr.mono (by decide : 5 ≤ 9)) gd letsB (da_cons (dty (cd_listA rfl) m_list bt_list (da_cons (de_var (i := 5) rfl (pv 5)) da_nil)) da_nil)) (de_var (i := 5) rfl (pv 5)) (nomark _)) (dw_or1 (dt_cmp (od_ne hr.units) (dc c_lattice_both (hr.mono (by decide : 6 ≤ 9)) gd letsB (da_cons (de_var (i := 3) rfl (pv 3)) (da_cons (de_var (i := 3) rfl (pv 3)) da_nil))) (de_ix (de_var (i := 6) rfl (pv 6)) de_int (fun _ _ => rfl)) (nomark _)))))) (dss_wk (.fz (.fz (.fz (.fz (.fz (.fz (.fz (.fz (.fz (.fz (.fz (.fz (.fz (.fz (.fz (.fz .nil)))))))))))))))) (dss_one (ds_ret (wk_fzs _) .nil de_bl))) dss_nil) (dss_cons (ds_set (i := 7) (wk_fzs _) sc_law.nd rfl (by first | exact .inl rfl | exact .inr rfl) de_int) (dss_cons (ds_for (vs := [8]) (wk_fzs _) passB rfl (di_rng1 rfl m_range (da_cons de_int da_nil)) (dg_name (i := 8) rfl (pg_name (i := 8) sc_law.nd rfl (by first | exact .inl rfl | exact .inr rfl))) (dss_cons (ds_par2 (i := 9) (j := 10) (wk_fzs _) rfl rfl rfl sc_law.nd (da_cons (de_op od_sub (dcP c__law_draw (hr.mono (by decide : 1 ≤ 9)) gd letsB (i := 1) rfl rfl (pv 1) (da_cons (de_op od_mulA de_int (de_var (i := 7) rfl (pv 7))) da_nil)) (de_var (i := 7) rfl (pv 7))) (da_cons (de_op od_sub (dcP c__law_draw (hr.mono (by decide : 1 ≤ 9)) gd letsB (i := 1) rfl rfl (pv 1) (da_cons (de_op od_mulA de_int (de_var (i := 7) rfl (pv 7))) da_nil)) (de_var (i := 7) rfl (pv 7))) da_nil))) (dss_cons (ds_set (i := 11) (wk_fzs _) sc_law.nd rfl (by first | exact .inl rfl | exact .inr rfl) (de_and (de_cmp (od_eq hr.units) (dc c__law_reduced (hr.mono (by decide : 1 ≤ 9)) gd letsB (da_cons (de_ix (de_var (i := 6) rfl (pv 6)) de_int (fun _ _ => rfl)) (da_cons (de_tup (da_cons (de_var (i := 9) rfl (pv 9)) (da_cons (de_var (i := 10) rfl (pv 10)) da_nil))) da_nil))) (de_tup (da_cons de_int (da_cons de_int da_nil))) (nomark _)) (de_one (de_cmp (od_eq hr.units) (dc c__law_reduced (hr.mono (by decide : 1 ≤ 9)) gd letsB (da_cons (de_ix (de_var (i := 6) rfl (pv 6)) de_int (fun _ _ => rfl)) (da_cons (de_tup (da_cons (de_var (i := 9) rfl (pv 9)) (da_cons (de_var (i := 10) rfl (pv 10)) da_nil))) da_nil))) (de_tup (da_cons de_int (da_cons de_int da_nil))) (nomark _))))) (dss_one (ds_if (wk_fzs _) (dt_cmp (od_ne hr.units) (de_cmp (od_eq hr.units) (dc c__law_reduced (hr.mono (by decide : 1 ≤ 9)) gd letsB (da_cons (de_var (i := 5) rfl (pv 5)) (da_cons (de_tup (da_cons (de_var (i := 9) rfl (pv 9)) (da_cons (de_var (i := 10) rfl (pv 10)) da_nil))) da_nil))) (de_tup (da_cons de_int (da_cons de_int da_nil))) (nomark _)) (de_var (i := 11) rfl (pv 11)) (nomark _)) (dss_wk (.fz (.fz (.fz (.fz (.fz (.fz (.fz (.fz (.fz (.fz (.fz (.fz (.fz (.fz (.fz (.fz .nil)))))))))))))))) (dss_one (ds_ret (wk_fzs _) .nil de_bl))) dss_nil))))) (dss_cons (ds_for (vs := [9]) (wk_fzs _) passB rfl (di_rng2 rfl m_range (da_cons (de_op od_sub de_int de_int) (da_cons de_int da_nil))) (dg_name (i := 9) rfl (pg_name (i := 9) sc_law.nd rfl (by first | exact .inl rfl | exact .inr rfl))) (dss_one (ds_for (vs := [10]) (wk_fzs _) passB rfl (di_rng1 rfl m_range (da_cons de_int da_nil)) (dg_name (i := 10) rfl (pg_name (i := 10) sc_law.nd rfl (by first | exact .inl rfl | exact .inr rfl))) (dss_cons (ds_set (i := 11) (wk_fzs _) sc_law.nd rfl (by first | exact .inl rfl | exact .inr rfl) (de_and (de_cmp (od_eq hr.units) (dc c__law_reduced (hr.mono (by decide : 1 ≤ 9)) gd letsB (da_cons (de_ix (de_var (i := 6) rfl (pv 6)) de_int (fun _ _ => rfl)) (da_cons (de_tup (da_cons (de_var (i := 9) rfl (pv 9)) (da_cons (de_var (i := 10) rfl (pv 10)) da_nil))) da_nil))) (de_tup (da_cons de_int (da_cons de_int da_nil))) (nomark _)) (de_one (de_cmp (od_eq hr.units) (dc c__law_reduced (hr.mono (by decide : 1 ≤ 9)) gd letsB (da_cons (de_ix (de_var (i := 6) rfl (pv 6)) de_int (fun _ _ => rfl)) (da_cons (de_tup (da_cons (de_var (i := 9) rfl (pv 9)) (da_cons (de_var (i := 10) rfl (pv 10)) da_nil))) da_nil))) (de_tup (da_cons de_int (da_cons de_int da_nil))) (nomark _))))) (dss_one (ds_if (wk_fzs _) (dt_cmp (od_ne hr.units) (de_cmp (od_eq hr.units) (dc c__law_reduced (hr.mono (by decide : 1 ≤ 9)) gd letsB (da_cons (de_var (i := 5) rfl (pv 5)) (da_cons (de_tup (da_cons (de_var (i := 9) rfl (pv 9)) (da_cons (de_var (i := 10) rfl (pv 10)) da_nil))) da_nil))) (de_tup (da_cons de_int (da_cons de_int da_nil))) (nomark _)) (de_var (i := 11) rfl (pv 11)) (nomark _)) (dss_wk (.fz (.fz (.fz (.fz (.fz (.fz (.fz (.fz (.fz (.fz (.fz (.fz (.fz (.fz (.fz (.fz .nil)))))))))))))))) (dss_one (ds_ret (wk_fzs _) .nil de_bl))) dss_nil)))))) (dss_cons (ds_if (wk_fzs _) (dt_cmp (od_ne hr.units) (de_fz (de_lc (own := [("shift", 15)]) rfl sc_law.nd (hv_cons rfl hv_nil) (di_all (de_var (i := 5) rfl (pv 5))) (blkOk_by (by rfl)) (fun s' H' C' cl fp => (dg_name (i := 15) rfl (pg_name (i := 15) sc_law.nd rfl (by first | exact .inl rfl | exact .inr rfl)))) (fun s' H' C' cl fp => (dts_one (DW.dt (dw_or (dt_cmp (od_ne hr.units) (dc c__law_reduced (hr.mono (by decide : 1 ≤ 9)) gd lets0 (da_cons (de_ix (de_var (i := 6) rfl (pv 6)) de_int (fun _ _ => rfl)) (da_cons (de_var (i := 15) rfl (pv 15)) da_nil))) (de_tup (da_cons de_int (da_cons de_int da_nil))) (nomark _)) (dw_or1 (dt_cmp (od_ne hr.units) (dc c__law_reduced (hr.mono (by decide : 1 ≤ 9)) gd lets0 (da_cons (de_ix (de_var (i := 6) rfl (pv 6)) de_int (fun _ _ => rfl)) (da_cons (de_var (i := 15) rfl (pv 15)) da_nil))) (de_tup (da_cons de_int (da_cons de_int da_nil))) (nomark _))))))) (fun s' H' C' cl fp => (de_var (i := 15) rfl (pv 15))))) (de_lst da_nil) (nomark _)) (dss_wk (.fz (.fz (.fz (.fz (.fz (.fz (.fz (.fz (.fz (.fz (.fz (.fz (.fz (.fz (.fz (.fz .nil)))))))))))))))) (dss_one (ds_ret (wk_fzs _) .nil de_bl))) dss_nil) (dss_one (ds_if (wk_fzs _) (DW.dt (dw_and (dt_cmp (od_eq hr.units) (db cd_len m_len bt_len (da_cons (de_ix (de_var (i := 6) rfl (pv 6)) de_int (fun _ _ => rfl)) da_nil)) de_int (nomark _)) (dw_and1 (dt_cmp (od_eq hr.units) (db cd_len m_len bt_len (da_cons (de_ix (de_var (i := 6) rfl (pv 6)) de_int (fun _ _ => rfl)) da_nil)) de_int (nomark _))))) (dss_cons (ds_par2 (i := 12) (j := 13) (wk_fzs _) rfl rfl rfl sc_law.nd (da_cons (de_op od_mulA (de_ix (de_ix (de_ix (de_var (i := 6) rfl (pv 6)) de_int (fun _ _ => rfl)) de_int (fun _ _ => rfl)) de_int (fun _ _ => rfl)) (de_ix (de_ix (de_ix (de_var (i := 6) rfl (pv 6)) de_int (fun _ _ => rfl)) de_int (fun _ _ => rfl)) de_int (fun _ _ => rfl))) (da_cons (de_op od_mulA (de_ix (de_ix (de_ix (de_var (i := 6) rfl (pv 6)) de_int (fun _ _ => rfl)) de_int (fun _ _ => rfl)) de_int (fun _ _ => rfl)) (de_ix (de_ix (de_ix (de_var (i := 6) rfl (pv 6)) de_int (fun _ _ => rfl)) de_int (fun _ _ => rfl)) de_int (fun _ _ => rfl))) da_nil))) (dss_cons (ds_set (i := 14) (wk_fzs _) sc_law.nd rfl (by first | exact .inl rfl | exact .inr rfl) (dc c_lattice (hr.mono (by decide : 5 ≤ 9)) gd letsB (da_cons (de_op od_add (dty (cd_listA rfl) m_list bt_list (da_cons (de_ix (de_var (i := 6) rfl (pv 6)) de_int (fun _ _ => rfl)) da_nil)) (dty (cd_listA rfl) m_list bt_list (da_cons (de_ix (de_var (i := 6) rfl (pv 6)) de_int (fun _ _ => rfl)) da_nil))) da_nil))) (dss_one (ds_if (wk_fzs _) (DW.dt (dw_or (dt_cmp (od_ne hr.units) (db cd_len m_len bt_len (da_cons (de_var (i := 5) rfl (pv 5)) da_nil)) de_int (nomark _)) (dw_or1 (dt_cmp (od_ne hr.units) (de_op od_mulA (de_op od_mulA (de_op od_mulA (de_ix (de_ix (de_var (i := 5) rfl (pv 5)) de_int (fun _ _ => rfl)) de_int (fun _ _ => rfl)) (de_ix (de_ix (de_var (i := 5) rfl (pv 5)) de_int (fun _ _ => rfl)) de_int (fun _ _ => rfl))) (de_ix (de_ix (de_var (i := 14) rfl (pv 14)) de_int (fun _ _ => rfl)) de_int (fun _ _ => rfl))) (de_ix (de_ix (de_var (i := 14) rfl (pv 14)) de_int (fun _ _ => rfl)) de_int (fun _ _ => rfl))) (de_op od_mulA (de_var (i := 12) rfl (pv 12)) (de_var (i := 13) rfl (pv 13))) (nomark _))))) (dss_wk (.fz (.fz (.fz (.fz (.fz (.fz (.fz (.fz (.fz (.fz (.fz (.fz (.fz (.fz (.fz (.fz .nil)))))))))))))))) (dss_one (ds_ret (wk_fzs _) .nil de_bl))) dss_nil)))) dss_nil)))))))))) (dss_one (ds_ret (wk_fzs _) .nil (de_and (dcP c__law_refused_right (hr.mono (by decide : 9 ≤ 9)) gd letsB (i := 1) rfl rfl (pv 1) da_nil) (de_one (de_cmp (od_eq hr.units) (dc c_lattice_both (hr.mono (by decide : 6 ≤ 9)) gd letsB (da_cons (de_lst (da_cons (de_tup (da_cons (de_op od_pow de_int de_int) (da_cons de_int da_nil))) da_nil)) (da_cons (de_lst (da_cons (de_tup (da_cons de_int (da_cons (de_op od_pow de_int de_int) da_nil))) (da_cons (de_tup (da_cons (de_op od_pow de_int de_int) (da_cons de_int da_nil))) da_nil))) da_nil))) (de_tup (da_cons (de_tup (da_cons (de_op od_pow de_int de_int) (da_cons (de_op od_pow de_int de_int) da_nil))) da_nil)) (nomark _))))))))
end
end Gk15
namespace Gk15
open PySem PySem.Spec PyProof.Rows L2 DL
def d__law_pen : He.DefD := ⟨("_law_pen", none), "_law_pen", "_law_pen", defArgs s__law_pen, defBody s__law_pen, defScope s__law_pen, [], []⟩
def d__law_draw : He.DefD := ⟨("_law_draw", none), "_law_draw", "_law_draw", defArgs s__law_draw, defBody s__law_draw, defScope s__law_draw, [], []⟩
def d__law_pick : He.DefD := ⟨("_law_pick", none), "_law_pick", "_law_pick", defArgs s__law_pick, defBody s__law_pick, defScope s__law_pick, [], []⟩
def d_is_list : He.DefD := ⟨("is_list", none), "is_list", "is_list", defArgs s_is_list, defBody s_is_list, defScope s_is_list, [], []⟩
def d_is_integer : He.DefD := ⟨("is_integer", none), "is_integer", "is_integer", defArgs s_is_integer, defBody s_is_integer, defScope s_is_integer, [], []⟩
def d_is_between : He.DefD := ⟨("is_between", none), "is_between", "is_between", defArgs s_is_between, defBody s_is_between, defScope s_is_between, [], []⟩
def d_is_cell : He.DefD := ⟨("is_cell", none), "is_cell", "is_cell", defArgs s_is_cell, defBody s_is_cell, defScope s_is_cell, [], []⟩
def d_need_shifts : He.DefD := ⟨("need_shifts", none), "need_shifts", "need_shifts", defArgs s_need_shifts, defBody s_need_shifts, defScope s_need_shifts, [], []⟩
def d_common : He.DefD := ⟨("common", none), "common", "common", defArgs s_common, defBody s_common, defScope s_common, [], []⟩
def d_divisor : He.DefD := ⟨("divisor", none), "divisor", "divisor", defArgs s_divisor, defBody s_divisor, defScope s_divisor, [], []⟩
def d_with_shift : He.DefD := ⟨("with_shift", none), "with_shift", "with_shift", defArgs s_with_shift, defBody s_with_shift, defScope s_with_shift, [], []⟩
def d_least_form : He.DefD := ⟨("least_form", none), "least_form", "least_form", defArgs s_least_form, defBody s_least_form, defScope s_least_form, [], []⟩
def d_lattice : He.DefD := ⟨("lattice", none), "lattice", "lattice", defArgs s_lattice, defBody s_lattice, defScope s_lattice, [], []⟩
def d_within : He.DefD := ⟨("within", none), "within", "within", defArgs s_within, defBody s_within, defScope s_within, [], []⟩
def d_is_in : He.DefD := ⟨("is_in", none), "is_in", "is_in", defArgs s_is_in, defBody s_is_in, defScope s_is_in, [], []⟩
def d_in_lattice : He.DefD := ⟨("in_lattice", none), "in_lattice", "in_lattice", defArgs s_in_lattice, defBody s_in_lattice, defScope s_in_lattice, [], []⟩
def d_rest_of : He.DefD := ⟨("rest_of", none), "rest_of", "rest_of", defArgs s_rest_of, defBody s_rest_of, defScope s_rest_of, [], []⟩
def d_size_of : He.DefD := ⟨("size_of", none), "size_of", "size_of", defArgs s_size_of, defBody s_size_of, defScope s_size_of, [], []⟩
def d_many_classes : He.DefD := ⟨("many_classes", none), "many_classes", "many_classes", defArgs s_many_classes, defBody s_many_classes, defScope s_many_classes, [], []⟩
def d_line_both : He.DefD := ⟨("line_both", none), "line_both", "line_both", defArgs s_line_both, defBody s_line_both, defScope s_line_both, [], []⟩
def d_both_of : He.DefD := ⟨("both_of", none), "both_of", "both_of", defArgs s_both_of, defBody s_both_of, defScope s_both_of, [], []⟩
def d_lattice_both : He.DefD := ⟨("lattice_both", none), "lattice_both", "lattice_both", defArgs s_lattice_both, defBody s_lattice_both, defScope s_lattice_both, [], []⟩
def d__law_heard : He.DefD := ⟨("_law_heard", none), "_law_heard", "_law_heard", defArgs s__law_heard, defBody s__law_heard, defScope s__law_heard, [], []⟩
def d__law_refused_right : He.DefD := ⟨("_law_refused_right", none), "_law_refused_right", "_law_refused_right", defArgs s__law_refused_right, defBody s__law_refused_right, defScope s__law_refused_right, [], []⟩
def d__law_some_shifts : He.DefD := ⟨("_law_some_shifts", none), "_law_some_shifts", "_law_some_shifts", defArgs s__law_some_shifts, defBody s__law_some_shifts, defScope s__law_some_shifts, [], []⟩
def d__law_reduced : He.DefD := ⟨("_law_reduced", none), "_law_reduced", "_law_reduced", defArgs s__law_reduced, defBody s__law_reduced, defScope s__law_reduced, [], []⟩
def d_law : He.DefD := ⟨("law", none), "law", "law", defArgs s_law, defBody s_law, defScope s_law, [], []⟩
def fn : List He.DefD := ([d__law_pen, d__law_draw, d__law_pick, d_is_list, d_is_integer, d_is_between, d_is_cell, d_need_shifts, d_common, d_divisor, d_with_shift, d_least_form, d_lattice, d_within, d_is_in, d_in_lattice, d_rest_of, d_size_of, d_many_classes, d_line_both] : List He.DefD) ++ ([d_both_of, d_lattice_both, d__law_heard, d__law_refused_right, d__law_some_shifts, d__law_reduced, d_law] : List He.DefD)
def fa : List He.Fa := ([.glo "_law_pen", .glo "_law_draw", .glo "_law_pick", .glo "is_list", .glo "is_integer", .glo "is_between", .glo "is_cell", .glo "need_shifts", .glo "common", .glo "divisor", .glo "with_shift", .glo "least_form", .glo "lattice", .glo "within", .glo "is_in", .glo "in_lattice", .glo "rest_of", .glo "size_of", .glo "many_classes", .glo "line_both"] : List He.Fa) ++ ([.glo "both_of", .glo "lattice_both", .glo "_law_heard", .glo "_law_refused_right", .glo "_law_some_shifts", .glo "_law_reduced", .glo "law", .glo "BadValue", .glo "BadNumber", .glo "BadPattern", .glo "Misfit", .glo "BadText", .glo "TooMany", .glo "SeamError", .free "int", .free "len", .free "abs", .free "isinstance", .free "list", .free "tuple"] : List He.Fa) ++ ([.free "bool", .free "all", .free "super", .free "min", .free "max", .free "range", .int "MOST_FAR" 1000000000000, .int "MOST_SHIFTS" 200] : List He.Fa)
def ex (K : DL.Fg) : Bool := (tryB K ["BadValue", "BadNumber", "BadPattern", "Misfit", "BadText", "TooMany"] "SeamError" && (excsB K ["BadValue", "BadNumber", "BadPattern", "Misfit", "BadText", "TooMany"] [("BadValue", ["SeamError"]), ("BadNumber", ["SeamError"]), ("BadPattern", ["SeamError"]), ("Misfit", ["SeamError"]), ("BadText", ["SeamError"]), ("TooMany", ["SeamError"])] ["BadValue", "BadNumber", "BadPattern", "Misfit", "BadText", "TooMany"] && (fldXB K ["BadValue", "BadNumber", "BadPattern", "Misfit", "BadText", "TooMany"] "part" && (fldXB K ["BadValue", "BadNumber", "BadPattern", "Misfit", "BadText", "TooMany"] "word" && (fldXB K ["BadValue", "BadNumber", "BadPattern", "Misfit", "BadText", "TooMany"] "line" && (fldXB K ["BadValue", "BadNumber", "BadPattern", "Misfit", "BadText", "TooMany"] "most" && (fldXB K ["BadValue", "BadNumber", "BadPattern", "Misfit", "BadText", "TooMany"] "what" && (lamB K (He.ga K "_law_refused_right") && true))))))))
def xd_BadValue : XD := ⟨"BadValue", "BadValue.__init__", defArgs (inClass (top 6) 0), defBody (inClass (top 6) 0), defScope (inClass (top 6) 0), ["part"], PySem.Challenge.pw_everyseam_k15_whole_shifts_in_two_lattic.main.file⟩
def xs : List XD := [xd_BadValue]
def loose : List Str := (["is_integer", "is_list", "is_between", "SeamError", "BadValue", "BadNumber", "BadPattern", "Misfit", "BadText", "TooMany", "MOST_FAR", "is_cell", "divisor", "MOST_SHIFTS", "common", "least_form", "with_shift", "is_in", "within", "size_of"] : List Str) ++ (["need_shifts", "lattice", "in_lattice", "rest_of", "many_classes", "lattice_both", "both_of", "line_both", "_law_pen", "_law_draw", "_law_pick", "_law_reduced", "_law_some_shifts", "_law_heard", "_law_refused_right"] : List Str)
abbrev R : PySem.W.OpenRow := PySem.W.OpenLaw.row PySem.Challenge.rw_everyseam_k15_whole_shifts_in_two_lattic
abbrev hk : PySem.W.Hook := DL.hookB 4 fa fn xs ex
def ob (s : PySem.W.SharedT) : DL.AlB := DL.obsB 4 fa fn xs ex (HandSHeadRun.getT s)
theorem ob_eq (s : PySem.W.SharedT) : ob s = hk.obs s.abs := DL.obsB_eq (HandSHeadRun.getT_eq s)
theorem run (w : World) : HandSHeadRun.RunEq R (PySem.W.view R.prog [41]) hk ob 20000 loose w := by
  intro os
  kernel_rfl
end Gk15
namespace Gk15
open PySem PySem.Spec PyProof.Rows L2 DL
theorem x1_BadValue {P : Program} {w : World} {K : Fg} {mg : Str → Option Value} (c : fnWE K "BadValue" = xd_BadValue.val ∧ xd_BadValue.ok K = true) (g : mg "BadValue" = some (.ref (He.ga K "BadValue"))) (h1 : (P.main.file == PySem.Challenge.pw_everyseam_k15_whole_shifts_in_two_lattic.main.file) = true) (h2 : (P.main.scope.names.lookup ("super" : Str)).isSome = false) : Ex1 P w K mg "BadValue" "part" :=
  ex1_of (d := xd_BadValue) c g h1 h2 (by decide) ⟨rfl, rfl, rfl, by decide +kernel, rfl, rfl, rfl, by decide +kernel⟩ (by decide) rfl rfl rfl (fun _ _ _ _ _ _ _ _ _ => rfl) (fun _ _ _ => ⟨fun _ => rfl, fun _ => rfl, fun _ => rfl, fun _ => rfl, fun _ => rfl⟩) (fun _ _ _ _ => rfl)
theorem facts {P : Program} {w : World} {K : PySem.W.Frag} {h : Heap} {mg : Str → Option Value} {f : Addr} (X : K.In h) (G : h.Ns mainGlobals mg) (hfa : mg ("law" : Str) = some (.ref f)) (c : DL.SaysB fa fn xs ex h K) (hp1 : (P.main.file == PySem.Challenge.pw_everyseam_k15_whole_shifts_in_two_lattic.main.file) = true) (hp2 : (P.main.scope.names.lookup ("super" : Str)).isSome = false) :
    ∃ fd : FuncData, (∀ (s : Shared) (v : Value), BindsTo s fd ⟨[v], []⟩ [("script", v)]) ∧ ∀ base : Heap, K.In base → base.Ns mainGlobals mg → BmOk K mg base → FnG P w K mg base 10 f fd ["script"] (spF K mg 1 .fz m_law) := by
  obtain ⟨fd0, F0⟩ := c.d.def_ 0 (d := d__law_pen) rfl
  obtain ⟨fd1, F1⟩ := c.d.def_ 1 (d := d__law_draw) rfl
  obtain ⟨fd2, F2⟩ := c.d.def_ 2 (d := d__law_pick) rfl
  obtain ⟨fd3, F3⟩ := c.d.def_ 3 (d := d_is_list) rfl
  obtain ⟨fd4, F4⟩ := c.d.def_ 4 (d := d_is_integer) rfl
  obtain ⟨fd5, F5⟩ := c.d.def_ 5 (d := d_is_between) rfl
  obtain ⟨fd6, F6⟩ := c.d.def_ 6 (d := d_is_cell) rfl
  obtain ⟨fd7, F7⟩ := c.d.def_ 7 (d := d_need_shifts) rfl
  obtain ⟨fd8, F8⟩ := c.d.def_ 8 (d := d_common) rfl
  obtain ⟨fd9, F9⟩ := c.d.def_ 9 (d := d_divisor) rfl
  obtain ⟨fd10, F10⟩ := c.d.def_ 10 (d := d_with_shift) rfl
  obtain ⟨fd11, F11⟩ := c.d.def_ 11 (d := d_least_form) rfl
  obtain ⟨fd12, F12⟩ := c.d.def_ 12 (d := d_lattice) rfl
  obtain ⟨fd13, F13⟩ := c.d.def_ 13 (d := d_within) rfl
  obtain ⟨fd14, F14⟩ := c.d.def_ 14 (d := d_is_in) rfl
  obtain ⟨fd15, F15⟩ := c.d.def_ 15 (d := d_in_lattice) rfl
  obtain ⟨fd16, F16⟩ := c.d.def_ 16 (d := d_rest_of) rfl
  obtain ⟨fd17, F17⟩ := c.d.def_ 17 (d := d_size_of) rfl
  obtain ⟨fd18, F18⟩ := c.d.def_ 18 (d := d_many_classes) rfl
  obtain ⟨fd19, F19⟩ := c.d.def_ 19 (d := d_line_both) rfl
  obtain ⟨fd20, F20⟩ := c.d.def_ 20 (d := d_both_of) rfl
  obtain ⟨fd21, F21⟩ := c.d.def_ 21 (d := d_lattice_both) rfl
  obtain ⟨fd22, F22⟩ := c.d.def_ 22 (d := d__law_heard) rfl
  obtain ⟨fd23, F23⟩ := c.d.def_ 23 (d := d__law_refused_right) rfl
  obtain ⟨fd24, F24⟩ := c.d.def_ 24 (d := d__law_some_shifts) rfl
  obtain ⟨fd25, F25⟩ := c.d.def_ 25 (d := d__law_reduced) rfl
  obtain ⟨fd26, F26⟩ := c.d.def_ 26 (d := d_law) rfl
  have m_int := He.free_ok X G (c.d.fact 34 (f := .free "int") rfl)
  have m_len := He.free_ok X G (c.d.fact 35 (f := .free "len") rfl)
  have m_abs := He.free_ok X G (c.d.fact 36 (f := .free "abs") rfl)
  have m_isinstance := He.free_ok X G (c.d.fact 37 (f := .free "isinstance") rfl)
  have m_list := He.free_ok X G (c.d.fact 38 (f := .free "list") rfl)
  have m_tuple := He.free_ok X G (c.d.fact 39 (f := .free "tuple") rfl)
  have m_bool := He.free_ok X G (c.d.fact 40 (f := .free "bool") rfl)
  have m_all := He.free_ok X G (c.d.fact 41 (f := .free "all") rfl)
  have m_super := He.free_ok X G (c.d.fact 42 (f := .free "super") rfl)
  have m_min := He.free_ok X G (c.d.fact 43 (f := .free "min") rfl)
  have m_max := He.free_ok X G (c.d.fact 44 (f := .free "max") rfl)
  have m_range := He.free_ok X G (c.d.fact 45 (f := .free "range") rfl)
  have gi_MOST_FAR := He.int_ok X G (c.d.fact 46 (f := .int "MOST_FAR" 1000000000000) rfl)
  have gi_MOST_SHIFTS := He.int_ok X G (c.d.fact 47 (f := .int "MOST_SHIFTS" 200) rfl)
  have gc_BadValue := He.glo_ok X G (c.d.fact 27 (f := .glo "BadValue") rfl)
  have gc_BadNumber := He.glo_ok X G (c.d.fact 28 (f := .glo "BadNumber") rfl)
  have gc_BadPattern := He.glo_ok X G (c.d.fact 29 (f := .glo "BadPattern") rfl)
  have gc_Misfit := He.glo_ok X G (c.d.fact 30 (f := .glo "Misfit") rfl)
  have gc_BadText := He.glo_ok X G (c.d.fact 31 (f := .glo "BadText") rfl)
  have gc_TooMany := He.glo_ok X G (c.d.fact 32 (f := .glo "TooMany") rfl)
  have gc_SeamError := He.glo_ok X G (c.d.fact 33 (f := .glo "SeamError") rfl)
  have x1_BadValue := x1_BadValue (P := P) (w := w) (c.exn 0 (d := xd_BadValue) rfl) gc_BadValue hp1 hp2
  have gx : ∀ z ∈ (["BadValue", "BadNumber", "BadPattern", "Misfit", "BadText", "TooMany"] : List Str), mg z = some (.ref (He.ga K z)) := (List.forall_mem_cons.mpr ⟨gc_BadValue, (List.forall_mem_cons.mpr ⟨gc_BadNumber, (List.forall_mem_cons.mpr ⟨gc_BadPattern, (List.forall_mem_cons.mpr ⟨gc_Misfit, (List.forall_mem_cons.mpr ⟨gc_BadText, (List.forall_mem_cons.mpr ⟨gc_TooMany, (fun _ z => nomatch z)⟩)⟩)⟩)⟩)⟩)⟩)
  have tr_SeamError := (He.ba c.x).1
  have xi_law_heard := (He.ba (He.ba c.x).2).1
  have fx_part := (He.ba (He.ba (He.ba c.x).2).2).1
  have fx_word := (He.ba (He.ba (He.ba (He.ba c.x).2).2).2).1
  have fx_line := (He.ba (He.ba (He.ba (He.ba (He.ba c.x).2).2).2).2).1
  have fx_most := (He.ba (He.ba (He.ba (He.ba (He.ba (He.ba c.x).2).2).2).2).2).1
  have fx_what := (He.ba (He.ba (He.ba (He.ba (He.ba (He.ba (He.ba c.x).2).2).2).2).2).2).1
  have lam__law_refused_right := (He.ba (He.ba (He.ba (He.ba (He.ba (He.ba (He.ba (He.ba c.x).2).2).2).2).2).2).2).1
  have e := hfa.symm.trans (He.glo_ok X G (c.d.fact 26 (f := .glo "law") rfl))
  cases e
  have b := FunD.bindsA (ps := ["script"]) F26 fun _ _ _ _ _ _ us hl => match us, hl with | [_], _ => rfl
  have kb_lattice_both_other_one : KwB K fd21 ["one", "other"] ["other", "one"] [1, 0] := kwN F21 fun _ _ _ _ _ _ us hl => match us, hl with | [_, _], _ => rfl
  have c__law_pen : ∀ base : Heap, K.In base → base.Ns mainGlobals mg → BmOk K mg base → Got P w K mg base 1 fd0 "_law_pen" ["script"] (spF K mg 1 (.lst .fz) m__law_pen) := fun base b1 b2 b3 => ⟨ok__law_pen F0 m_int, F0.bindsN (fun _ _ _ _ _ _ us hl => match us, hl with | [_], _ => rfl), He.glo_ok X G (c.d.fact 0 (f := .glo "_law_pen") rfl), F0.kp⟩
  have c__law_draw : ∀ base : Heap, K.In base → base.Ns mainGlobals mg → BmOk K mg base → Got P w K mg base 1 fd1 "_law_draw" ["pen", "many"] (spP K mg 1 (.fz) m__law_draw) := fun base b1 b2 b3 => ⟨ok__law_draw F1 m_int m_len m_abs, F1.bindsN (fun _ _ _ _ _ _ us hl => match us, hl with | [_, _], _ => rfl), He.glo_ok X G (c.d.fact 1 (f := .glo "_law_draw") rfl), F1.kp⟩
  have c__law_pick : ∀ base : Heap, K.In base → base.Ns mainGlobals mg → BmOk K mg base → Got P w K mg base 2 fd2 "_law_pick" ["pen", "some"] (spP K mg 1 (.fz) m__law_pick) := fun base b1 b2 b3 => ⟨ok__law_pick F2 (c__law_draw base b1 b2 b3) m_len, F2.bindsN (fun _ _ _ _ _ _ us hl => match us, hl with | [_, _], _ => rfl), He.glo_ok X G (c.d.fact 2 (f := .glo "_law_pick") rfl), F2.kp⟩
  have c_is_list : ∀ base : Heap, K.In base → base.Ns mainGlobals mg → BmOk K mg base → Got P w K mg base 1 fd3 "is_list" ["value"] (spF K mg 1 (.fz) m_is_list) := fun base b1 b2 b3 => ⟨ok_is_list F3 m_isinstance m_list m_tuple, F3.bindsN (fun _ _ _ _ _ _ us hl => match us, hl with | [_], _ => rfl), He.glo_ok X G (c.d.fact 3 (f := .glo "is_list") rfl), F3.kp⟩
  have c_is_integer : ∀ base : Heap, K.In base → base.Ns mainGlobals mg → BmOk K mg base → Got P w K mg base 1 fd4 "is_integer" ["value"] (spF K mg 1 (.fz) m_is_integer) := fun base b1 b2 b3 => ⟨ok_is_integer F4 m_isinstance m_int m_bool, F4.bindsN (fun _ _ _ _ _ _ us hl => match us, hl with | [_], _ => rfl), He.glo_ok X G (c.d.fact 4 (f := .glo "is_integer") rfl), F4.kp⟩
  have c_is_between : ∀ base : Heap, K.In base → base.Ns mainGlobals mg → BmOk K mg base → Got P w K mg base 2 fd5 "is_between" ["value", "least", "most"] (spF K mg 3 (.fz) m_is_between) := fun base b1 b2 b3 => ⟨ok_is_between F5 (c_is_integer base b1 b2 b3), F5.bindsN (fun _ _ _ _ _ _ us hl => match us, hl with | [_, _, _], _ => rfl), He.glo_ok X G (c.d.fact 5 (f := .glo "is_between") rfl), F5.kp⟩
  have c_is_cell : ∀ base : Heap, K.In base → base.Ns mainGlobals mg → BmOk K mg base → Got P w K mg base 3 fd6 "is_cell" ["value"] (spF K mg 1 (.fz) m_is_cell) := fun base b1 b2 b3 => ⟨ok_is_cell F6 m_isinstance m_tuple m_len (c_is_between base b1 b2 b3) gi_MOST_FAR m_all, F6.bindsN (fun _ _ _ _ _ _ us hl => match us, hl with | [_], _ => rfl), He.glo_ok X G (c.d.fact 6 (f := .glo "is_cell") rfl), F6.kp⟩
  have c_need_shifts : ∀ base : Heap, K.In base → base.Ns mainGlobals mg → BmOk K mg base → Got P w K mg base 4 fd7 "need_shifts" ["part", "value"] (spF K mg 2 (.fz) m_need_shifts) := fun base b1 b2 b3 => ⟨ok_need_shifts F7 (c_is_list base b1 b2 b3) m_len gi_MOST_SHIFTS (c_is_cell base b1 b2 b3) m_all x1_BadValue m_super, F7.bindsN (fun _ _ _ _ _ _ us hl => match us, hl with | [_, _], _ => rfl), He.glo_ok X G (c.d.fact 7 (f := .glo "need_shifts") rfl), F7.kp⟩
  have c_common : ∀ base : Heap, K.In base → base.Ns mainGlobals mg → BmOk K mg base → Got P w K mg base 1 fd8 "common" ["one", "other"] (spF K mg 2 (.fz) m_common) := fun base b1 b2 b3 => ⟨ok_common F8 , F8.bindsN (fun _ _ _ _ _ _ us hl => match us, hl with | [_, _], _ => rfl), He.glo_ok X G (c.d.fact 8 (f := .glo "common") rfl), F8.kp⟩
  have c_divisor : ∀ base : Heap, K.In base → base.Ns mainGlobals mg → BmOk K mg base → Got P w K mg base 1 fd9 "divisor" ["one", "other"] (spF K mg 2 (.fz) m_divisor) := fun base b1 b2 b3 => ⟨ok_divisor F9 , F9.bindsN (fun _ _ _ _ _ _ us hl => match us, hl with | [_, _], _ => rfl), He.glo_ok X G (c.d.fact 9 (f := .glo "divisor") rfl), F9.kp⟩
  have c_with_shift : ∀ base : Heap, K.In base → base.Ns mainGlobals mg → BmOk K mg base → Got P w K mg base 2 fd10 "with_shift" ["row", "step", "shift"] (spF K mg 3 (.fz) m_with_shift) := fun base b1 b2 b3 => ⟨ok_with_shift F10 (c_divisor base b1 b2 b3) m_abs (c_common base b1 b2 b3) m_min m_max, F10.bindsN (fun _ _ _ _ _ _ us hl => match us, hl with | [_, _, _], _ => rfl), He.glo_ok X G (c.d.fact 10 (f := .glo "with_shift") rfl), F10.kp⟩
  have c_least_form : ∀ base : Heap, K.In base → base.Ns mainGlobals mg → BmOk K mg base → Got P w K mg base 3 fd11 "least_form" ["shifts"] (spF K mg 1 (.fz) m_least_form) := fun base b1 b2 b3 => ⟨ok_least_form F11 (c_with_shift base b1 b2 b3), F11.bindsN (fun _ _ _ _ _ _ us hl => match us, hl with | [_], _ => rfl), He.glo_ok X G (c.d.fact 11 (f := .glo "least_form") rfl), F11.kp⟩
  have c_lattice : ∀ base : Heap, K.In base → base.Ns mainGlobals mg → BmOk K mg base → Got P w K mg base 5 fd12 "lattice" ["shifts"] (spF K mg 1 (.fz) m_lattice) := fun base b1 b2 b3 => ⟨ok_lattice F12 (c_need_shifts base b1 b2 b3) (c_least_form base b1 b2 b3), F12.bindsN (fun _ _ _ _ _ _ us hl => match us, hl with | [_], _ => rfl), He.glo_ok X G (c.d.fact 12 (f := .glo "lattice") rfl), F12.kp⟩
  have c_within : ∀ base : Heap, K.In base → base.Ns mainGlobals mg → BmOk K mg base → Got P w K mg base 1 fd13 "within" ["lattice", "shift"] (spF K mg 2 (.fz) m_within) := fun base b1 b2 b3 => ⟨ok_within F13 , F13.bindsN (fun _ _ _ _ _ _ us hl => match us, hl with | [_, _], _ => rfl), He.glo_ok X G (c.d.fact 13 (f := .glo "within") rfl), F13.kp⟩
  have c_is_in : ∀ base : Heap, K.In base → base.Ns mainGlobals mg → BmOk K mg base → Got P w K mg base 2 fd14 "is_in" ["lattice", "shift"] (spF K mg 2 (.fz) m_is_in) := fun base b1 b2 b3 => ⟨ok_is_in F14 (c_within base b1 b2 b3), F14.bindsN (fun _ _ _ _ _ _ us hl => match us, hl with | [_, _], _ => rfl), He.glo_ok X G (c.d.fact 14 (f := .glo "is_in") rfl), F14.kp⟩
  have c_in_lattice : ∀ base : Heap, K.In base → base.Ns mainGlobals mg → BmOk K mg base → Got P w K mg base 5 fd15 "in_lattice" ["shifts", "shift"] (spF K mg 2 (.fz) m_in_lattice) := fun base b1 b2 b3 => ⟨ok_in_lattice F15 (c_need_shifts base b1 b2 b3) (c_is_cell base b1 b2 b3) x1_BadValue m_super (c_is_in base b1 b2 b3) (c_least_form base b1 b2 b3), F15.bindsN (fun _ _ _ _ _ _ us hl => match us, hl with | [_, _], _ => rfl), He.glo_ok X G (c.d.fact 15 (f := .glo "in_lattice") rfl), F15.kp⟩
  have c_rest_of : ∀ base : Heap, K.In base → base.Ns mainGlobals mg → BmOk K mg base → Got P w K mg base 5 fd16 "rest_of" ["shifts", "shift"] (spF K mg 2 (.fz) m_rest_of) := fun base b1 b2 b3 => ⟨ok_rest_of F16 (c_need_shifts base b1 b2 b3) (c_is_cell base b1 b2 b3) x1_BadValue m_super (c_within base b1 b2 b3) (c_least_form base b1 b2 b3), F16.bindsN (fun _ _ _ _ _ _ us hl => match us, hl with | [_, _], _ => rfl), He.glo_ok X G (c.d.fact 16 (f := .glo "rest_of") rfl), F16.kp⟩
  have c_size_of : ∀ base : Heap, K.In base → base.Ns mainGlobals mg → BmOk K mg base → Got P w K mg base 1 fd17 "size_of" ["lattice"] (spF K mg 1 (.fz) m_size_of) := fun base b1 b2 b3 => ⟨ok_size_of F17 m_len, F17.bindsN (fun _ _ _ _ _ _ us hl => match us, hl with | [_], _ => rfl), He.glo_ok X G (c.d.fact 17 (f := .glo "size_of") rfl), F17.kp⟩
  have c_many_classes : ∀ base : Heap, K.In base → base.Ns mainGlobals mg → BmOk K mg base → Got P w K mg base 5 fd18 "many_classes" ["shifts"] (spF K mg 1 (.fz) m_many_classes) := fun base b1 b2 b3 => ⟨ok_many_classes F18 (c_need_shifts base b1 b2 b3) (c_size_of base b1 b2 b3) (c_least_form base b1 b2 b3), F18.bindsN (fun _ _ _ _ _ _ us hl => match us, hl with | [_], _ => rfl), He.glo_ok X G (c.d.fact 18 (f := .glo "many_classes") rfl), F18.kp⟩
  have c_line_both : ∀ base : Heap, K.In base → base.Ns mainGlobals mg → BmOk K mg base → Got P w K mg base 4 fd19 "line_both" ["one", "other"] (spF K mg 2 (.fz) m_line_both) := fun base b1 b2 b3 => ⟨ok_line_both F19 m_len m_abs (c_divisor base b1 b2 b3) (c_least_form base b1 b2 b3), F19.bindsN (fun _ _ _ _ _ _ us hl => match us, hl with | [_, _], _ => rfl), He.glo_ok X G (c.d.fact 19 (f := .glo "line_both") rfl), F19.kp⟩
  have c_both_of : ∀ base : Heap, K.In base → base.Ns mainGlobals mg → BmOk K mg base → Got P w K mg base 5 fd20 "both_of" ["one", "other"] (spF K mg 2 (.fz) m_both_of) := fun base b1 b2 b3 => ⟨ok_both_of F20 m_len (c_line_both base b1 b2 b3) (c_common base b1 b2 b3) (c_divisor base b1 b2 b3), F20.bindsN (fun _ _ _ _ _ _ us hl => match us, hl with | [_, _], _ => rfl), He.glo_ok X G (c.d.fact 20 (f := .glo "both_of") rfl), F20.kp⟩
  have c_lattice_both : ∀ base : Heap, K.In base → base.Ns mainGlobals mg → BmOk K mg base → Got P w K mg base 6 fd21 "lattice_both" ["one", "other"] (spF K mg 2 (.fz) m_lattice_both) := fun base b1 b2 b3 => ⟨ok_lattice_both F21 (c_need_shifts base b1 b2 b3) (c_both_of base b1 b2 b3) (c_least_form base b1 b2 b3), F21.bindsN (fun _ _ _ _ _ _ us hl => match us, hl with | [_, _], _ => rfl), He.glo_ok X G (c.d.fact 21 (f := .glo "lattice_both") rfl), F21.kp⟩
  have c__law_heard : GotH P w K mg 8 fd22 "_law_heard" ["ask"] 7 0 0 (.fz) m__law_heard := ⟨fun base b1 b2 b3 => ok__law_heard F22 gc_SeamError tr_SeamError gx xi_law_heard m_isinstance gc_BadValue fx_part gc_BadNumber gc_BadPattern gc_Misfit gc_BadText fx_word fx_line gc_TooMany fx_most fx_what, F22.bindsN (fun _ _ _ _ _ _ us hl => match us, hl with | [_], _ => rfl), He.glo_ok X G (c.d.fact 22 (f := .glo "_law_heard") rfl), F22.kp⟩
  have c__law_refused_right : ∀ base : Heap, K.In base → base.Ns mainGlobals mg → BmOk K mg base → Got P w K mg base 9 fd23 "_law_refused_right" ["pen"] (spP K mg 0 (.fz) m__law_refused_right) := fun base b1 b2 b3 => ⟨ok__law_refused_right F23 m_range (c__law_pick base b1 b2 b3) c__law_heard b3 lam__law_refused_right (c_in_lattice base b1 b2 b3) (c_lattice base b1 b2 b3) (c_many_classes base b1 b2 b3) (c_rest_of base b1 b2 b3) (c_lattice_both base b1 b2 b3), F23.bindsN (fun _ _ _ _ _ _ us hl => match us, hl with | [_], _ => rfl), He.glo_ok X G (c.d.fact 23 (f := .glo "_law_refused_right") rfl), F23.kp⟩
  have c__law_some_shifts : ∀ base : Heap, K.In base → base.Ns mainGlobals mg → BmOk K mg base → Got P w K mg base 2 fd24 "_law_some_shifts" ["pen"] (spP K mg 0 (.fz) m__law_some_shifts) := fun base b1 b2 b3 => ⟨ok__law_some_shifts F24 (c__law_draw base b1 b2 b3) m_range, F24.bindsN (fun _ _ _ _ _ _ us hl => match us, hl with | [_], _ => rfl), He.glo_ok X G (c.d.fact 24 (f := .glo "_law_some_shifts") rfl), F24.kp⟩
  have c__law_reduced : ∀ base : Heap, K.In base → base.Ns mainGlobals mg → BmOk K mg base → Got P w K mg base 1 fd25 "_law_reduced" ["basis", "shift"] (spF K mg 2 (.fz) m__law_reduced) := fun base b1 b2 b3 => ⟨ok__law_reduced F25 , F25.bindsN (fun _ _ _ _ _ _ us hl => match us, hl with | [_, _], _ => rfl), He.glo_ok X G (c.d.fact 25 (f := .glo "_law_reduced") rfl), F25.kp⟩
  refine ⟨fd26, fun s v => b s [v] rfl, fun base b1 b2 b3 => ?_⟩
  exact ok_law F26 (c__law_pen base b1 b2 b3) m_range (c__law_some_shifts base b1 b2 b3) (c_lattice base b1 b2 b3) (c_lattice_both base b1 b2 b3) kb_lattice_both_other_one m_list (c__law_draw base b1 b2 b3) (c__law_reduced base b1 b2 b3) m_len (c__law_refused_right base b1 b2 b3)
end Gk15
namespace Gk15
open PySem DL
def mix1 (c a : Int) : Int := (c % 2147483587 + 46653 * a + 3447) ^ 5 % 2147483563
def mix2 (c a : Int) : Int := (mix1 c a * (2 * a + 6489) + 91811 * a * a + 46653) ^ 3 % 2147483549
theorem draw_ok (cs : List Int) (a r m : Int) (h0 : 0 ≤ a) (h1 : a ≤ 100000) (hm : 0 < m) (hm2 : m < 18446744073709551616) :
    ∃ v a' r', m__law_draw [.lst [.lst (cs.map .int), .int a, .int r], .int m] = .ok (.int v) [some (.lst [.lst (cs.map .int), .int a', .int r'])] ∧ 0 ≤ v ∧ v < m ∧ a ≤ a' ∧ a' ≤ a + 1 := by
  have hd := divOk_of hm hm2
  have hm0 : m ≠ 0 := by omega
  have hm1 : 0 ≤ m := by omega
  by_cases hr : 0 < r
  · refine ⟨r % m, a, r / m, ?_, Int.emod_nonneg _ hm0, Int.emod_lt_of_pos _ hm, Int.le_refl _, by omega⟩
    simp [m__law_draw, b__law_draw, hr, hd, hm0, fmod_pos hm, fdiv_pos hm]
  · have m1 : mulOk 61857 a = true := mulOk_l (by decide)
    have m2 : mulOk 46653 a = true := mulOk_l (by decide)
    have m3 : mulOk 2 a = true := mulOk_l (by decide)
    have m4 : mulOk 91811 a = true := mulOk_l (by decide)
    have m5 : mulOk (91811 * a) a = true := mulOk_r (by omega)
    have m6 : ∀ c, mulOk (mix1 c a) (2 * a + 6489) = true := fun c => mulOk_r (by omega)
    have m7 : ∀ c, mulOk 2 c = true := fun c => mulOk_l (by decide)
    have hq : a * a ≤ 100000 * 100000 := Int.mul_le_mul h1 h1 h0 (by decide)
    have hq0 : 0 ≤ a * a := Int.mul_nonneg h0 h0
    have n1 : ∀ c, 0 ≤ mix1 c a ∧ mix1 c a < 2147483563 := fun c => ⟨Int.emod_nonneg _ (by decide), Int.emod_lt_of_pos _ (by decide)⟩
    have n2 : ∀ c, 0 ≤ mix1 c a * (2 * a + 6489) ∧ mix1 c a * (2 * a + 6489) ≤ 2147483563 * 206489 := fun c => ⟨Int.mul_nonneg (n1 c).1 (by omega), Int.mul_le_mul (Int.le_of_lt (n1 c).2) (by omega) (by omega) (by decide)⟩
    have n3 : 91811 * a * a = 91811 * (a * a) := by rw [Int.mul_assoc]
    have p1 : gPow (.int 10) (.int 18) = some (.int 1000000000000000000) := powOk (i := 10) (k := 18) (by decide) (by decide)
    have p2 : ∀ c : Int, gPow (.int (c % 2147483587 + 46653 * a + 3447)) (.int 5) = some (.int ((c % 2147483587 + 46653 * a + 3447) ^ 5)) := fun c => powOk (k := 5) (by omega) (by decide)
    have p3 : ∀ c : Int, gPow (.int (mix1 c a * (2 * a + 6489) + 91811 * a * a + 46653)) (.int 3) = some (.int ((mix1 c a * (2 * a + 6489) + 91811 * a * a + 46653) ^ 3)) := fun c => powOk (k := 3) (by have := n2 c; omega) (by decide)
    have k1 : ∀ c : Int, (c % 2147483587 + 46653 * a + 3447) ^ 5 % 2147483563 = mix1 c a := fun c => rfl
    have k2 : ∀ c : Int, (mix1 c a * (2 * a + 6489) + 91811 * a * a + 46653) ^ 3 % 2147483549 = mix2 c a := fun c => rfl
    have d32 : divOk 32 = true := divOk_of (by decide) (by decide)
    have hlt : ¬ (a < 0) := by omega
    have e0 := ne_nil cs
    by_cases hc : cs = []
    · subst hc
      refine ⟨mix2 (61857 * a + 6489) a / 32 % m, a + 1, r, ?_, Int.emod_nonneg _ hm0, Int.emod_lt_of_pos _ hm, by omega, Int.le_refl _⟩
      simp only [List.map_nil, List.isEmpty_nil] at e0
      simp [m__law_draw, b__law_draw, hr, hd, hm0, hm1, m1, m2, m3, m4, m5, m6, m7, e0, hlt, p1, p2, p3, k1, k2, d32, -s_powI, Int.fmod_eq_emod_of_nonneg, Int.fdiv_eq_ediv_of_nonneg]
    · obtain ⟨c, ec⟩ := pick_at hc a
      have hl : cs.length ≠ 0 := fun z => hc (List.length_eq_zero_iff.mp z)
      by_cases hb : a < (cs.length : Int) ∧ 1000000000000000000 ≤ (if c < 0 then -c else c)
      · refine ⟨(2 * ((if c < 0 then -c else c) - 1000000000000000000) + (if c < 0 then 1 else 0)) % m, a + 1, (2 * ((if c < 0 then -c else c) - 1000000000000000000) + (if c < 0 then 1 else 0)) / m, ?_, Int.emod_nonneg _ hm0, Int.emod_lt_of_pos _ hm, by omega, Int.le_refl _⟩
        simp [m__law_draw, b__law_draw, hr, hd, hm0, hm1, m1, m2, m3, m4, m5, m6, m7, e0, hlt, p1, p2, p3, k1, k2, d32, hc, ec, hl, hb.1, hb.2, -s_powI, Int.fmod_eq_emod_of_nonneg, Int.fdiv_eq_ediv_of_nonneg]
      · refine ⟨mix2 c a / 32 % m, a + 1, r, ?_, Int.emod_nonneg _ hm0, Int.emod_lt_of_pos _ hm, by omega, Int.le_refl _⟩
        by_cases hb1 : a < (cs.length : Int)
        · have hb2 : ¬ (1000000000000000000 ≤ (if c < 0 then -c else c)) := fun z => hb ⟨hb1, z⟩
          simp [m__law_draw, b__law_draw, hr, hd, hm0, hm1, m1, m2, m3, m4, m5, m6, m7, e0, hlt, p1, p2, p3, k1, k2, d32, hc, ec, hl, hb1, hb2, -s_powI, Int.fmod_eq_emod_of_nonneg, Int.fdiv_eq_ediv_of_nonneg]
        · simp [m__law_draw, b__law_draw, hr, hd, hm0, hm1, m1, m2, m3, m4, m5, m6, m7, e0, hlt, p1, p2, p3, k1, k2, d32, hc, ec, hl, hb1, -s_powI, Int.fmod_eq_emod_of_nonneg, Int.fdiv_eq_ediv_of_nonneg]
/-- the pen: cells, a place, a rest -/
def Pen (k : Int) (xs : List D) : Prop := ∃ (cs : List Int) (a r : Int), xs = [.lst (cs.map .int), .int a, .int r] ∧ 0 ≤ a ∧ a ≤ k
theorem Pen.draw {k m : Int} {xs : List D} (h : Pen k xs) (hk : k ≤ 99999) (hm : 0 < m) (hm2 : m < 18446744073709551616) : ∃ v ys, m__law_draw [.lst xs, .int m] = .ok (.int v) [some (.lst ys)] ∧ Pen (k + 1) ys ∧ 0 ≤ v ∧ v < m := by
  obtain ⟨cs, a, r, rfl, h0, h1⟩ := h
  obtain ⟨v, a', r', e, p, q, s, t⟩ := draw_ok cs a r m h0 (by omega) hm hm2
  exact ⟨v, _, e, ⟨cs, a', r', rfl, by omega, by omega⟩, p, q⟩
theorem Pen.mono {j k : Int} {xs : List D} (h : Pen j xs) (l : j ≤ k) : Pen k xs := by
  obtain ⟨cs, a, r, e, h0, h1⟩ := h
  exact ⟨cs, a, r, e, h0, by omega⟩
theorem pen0 (ns : List Int) (h : ns.length ≤ 63) : ∃ xs, m__law_pen [.scr (ns.map D.int)] = .ok (.lst xs) [] ∧ Pen 0 xs := by
  have hc : cutD (ns.map D.int) none (some 63) = ns.map D.int := by
    refine cutD_all _ _ _ ⟨rfl, ?_⟩
    rw [List.length_map]
    show HT.sIx ns.length ns.length (some ((63 : Nat) : Int)) = _
    rw [HT.sIx_nat]
    omega
  have hl : ∀ (cs : List Int) (z : Option D), ∃ z', lcL [1] (gSet 1) yesM (appM gIntC (consM (getV 1) nilM)) (cs.map D.int) [z, none] = .ok (cs.map D.int) [z, z'] := by
    intro cs z
    obtain ⟨ρ', e, z', h⟩ := lc_inv (vs := [1]) (t := gSet 1) (tt := yesM) (te := appM gIntC (consM (getV 1) nilM)) (fun ρ => ∃ z', ρ = [z, z']) some (ds := cs.map D.int) (ρ := [z, none]) ⟨none, rfl⟩ (by
      rintro d hd ρ ⟨z', rfl⟩
      obtain ⟨c, _, rfl⟩ := List.mem_map.mp hd
      exact ⟨_, _, true, rfl, rfl, .inr ⟨rfl, _, _, rfl, rfl, none, rfl⟩⟩)
    subst h
    rw [List.filterMap_some] at e
    exact ⟨z', e⟩
  refine ⟨[.lst (ns.map D.int), .int 0, .int 0], ?_, ns, 0, 0, rfl, Int.le_refl _, Int.le_refl _⟩
  obtain ⟨z', e⟩ := hl ns (some (.scr (ns.map D.int)))
  simp [m__law_pen, b__law_pen, hc, show ns.length ≤ 16777216 by omega, e]
end Gk15
namespace Gk15
open PySem DL
/-- what the steps of common keep -/
structure Eu (A B r0 r1 a b c d : Int) : Prop where
  p : 0 < r0
  q : 0 ≤ r1
  e0 : r0 = a * A + b * B
  e1 : r1 = c * A + d * B
  s : ∃ e : Int, (e = 1 ∨ e = -1) ∧ 0 ≤ e * a ∧ e * c ≤ 0 ∧ e * b ≤ 0 ∧ 0 ≤ e * d ∧ e * d * r0 - e * b * r1 = A ∧ e * a * r1 - e * c * r0 = B
  ba : -B ≤ a ∧ a ≤ B
  bb : -A ≤ b ∧ b ≤ A
theorem mul_le' {x z : Int} (h : 0 ≤ x) (hz : 0 < z) : x ≤ x * z := by
  have h1 : x * 1 ≤ x * z := Int.mul_le_mul_of_nonneg_left hz h
  rw [Int.mul_one] at h1
  exact h1
theorem Eu.next {A B r0 r1 a b c d : Int} (h : Eu A B r0 r1 a b c d) (hr : 0 < r1) : Eu A B r1 (r0 - r0 / r1 * r1) c d (a - r0 / r1 * c) (b - r0 / r1 * d) := by
  obtain ⟨e, he, h1, h2, h3, h4, h5, h6⟩ := h.s
  have hm : 0 ≤ r0 / r1 := Int.ediv_nonneg (Int.le_of_lt h.p) (Int.le_of_lt hr)
  have hmod : r0 - r0 / r1 * r1 = r0 % r1 := by have := Int.emod_add_mul_ediv r0 r1; rw [Int.mul_comm] at this; omega
  generalize r0 / r1 = m at *
  have x1 : 0 ≤ (e * a) * r1 := Int.mul_nonneg h1 h.q
  have x2 : 0 ≤ (-(e * c)) * r0 := Int.mul_nonneg (by omega) (Int.le_of_lt h.p)
  have x3 : 0 ≤ (e * d) * r0 := Int.mul_nonneg h4 (Int.le_of_lt h.p)
  have x4 : 0 ≤ (-(e * b)) * r1 := Int.mul_nonneg (by omega) h.q
  have y1 := mul_le' (x := -(e * c)) (by omega) h.p
  have y2 := mul_le' (x := e * d) h4 h.p
  have z1 : 0 ≤ m * (-(e * c)) := Int.mul_nonneg hm (by omega)
  have z2 : 0 ≤ m * (e * d) := Int.mul_nonneg hm h4
  refine ⟨hr, by rw [hmod]; exact Int.emod_nonneg _ (by omega), h.e1, by have := h.e0; have := h.e1; grind, ⟨-e, by omega, ?_, ?_, ?_, ?_, ?_, ?_⟩, ?_, ?_⟩
  · grind
  · grind
  · grind
  · grind
  · grind
  · grind
  · have hb : -(e * c) ≤ B := by grind
    have h0 : 0 ≤ -(e * c) := by omega
    rcases he with rfl | rfl <;> omega
  · have hb : e * d ≤ A := by grind
    rcases he with rfl | rfl <;> omega
theorem common_loop (n : Nat) : ∀ {A B r0 r1 a b c d : Int} (z : Option D), Eu A B r0 r1 a b c d → r1.toNat ≤ n → r0 < 18446744073709551616 → r1 < 18446744073709551616 → ∃ g a' b' c' d' z', whileM (truM (bin gGt (getV 1) (pureM (.int 0)))) l0_common [some (.int r0), some (.int r1), some (.int a), some (.int b), some (.int c), some (.int d), z] = .ok .nx [some (.int g), some (.int 0), some (.int a'), some (.int b'), some (.int c'), some (.int d'), z'] ∧ Eu A B g 0 a' b' c' d' := by
  induction n with
  | zero =>
    intro A B r0 r1 a b c d z h hn h0 h1
    have := h.q
    have e : r1 = 0 := by omega
    subst e
    exact ⟨r0, a, b, c, d, z, by rw [whileM_step]; simp, h⟩
  | succ n ih =>
    intro A B r0 r1 a b c d z h hn h0 h1
    rcases Int.lt_or_eq_of_le h.q with hr | hr
    · have e1 := fdiv_pos (a := r0) hr
      have hm : 0 ≤ r0 / r1 := Int.ediv_nonneg (Int.le_of_lt h.p) (Int.le_of_lt hr)
      have hm2 : r0 / r1 ≤ r0 := Int.ediv_le_self r1 (Int.le_of_lt h.p)
      have d1 := divOk_of hr h1
      have m1 : mulOk (r0 / r1) r1 = true := mulOk_r (by omega)
      have m2 : mulOk (r0 / r1) c = true := mulOk_l (by omega)
      have m3 : mulOk (r0 / r1) d = true := mulOk_l (by omega)
      have hnx := h.next hr
      have hmod : r0 - r0 / r1 * r1 = r0 % r1 := by have := Int.emod_add_mul_ediv r0 r1; rw [Int.mul_comm] at this; omega
      have hlt := Int.emod_lt_of_pos r0 hr
      have hge := Int.emod_nonneg r0 (Int.ne_of_gt hr)
      obtain ⟨g, a', b', c', d', z', e, h'⟩ := ih (some (.int (r0 / r1))) hnx (by omega) h1 (by omega)
      refine ⟨g, a', b', c', d', z', ?_, h'⟩
      have hb : l0_common [some (.int r0), some (.int r1), some (.int a), some (.int b), some (.int c), some (.int d), z] = .ok .nx [some (.int r1), some (.int (r0 - r0 / r1 * r1)), some (.int c), some (.int d), some (.int (a - r0 / r1 * c)), some (.int (b - r0 / r1 * d)), some (.int (r0 / r1))] := by
        simp [l0_common, d1, e1, m1, m2, m3]
      rw [whileM_step]
      simp [hr, hb, e]
    · subst hr
      exact ⟨r0, a, b, c, d, z, by rw [whileM_step]; simp, h⟩
theorem v_common {A B : Int} (hA : 0 < A) (hB : 0 < B) (hA2 : A < 18446744073709551616) (hB2 : B < 18446744073709551616) : ∃ g a b, m_common [.int A, .int B] = .ok (.tup [.int g, .int a, .int b]) [] ∧ 0 < g ∧ g ∣ A ∧ g ∣ B ∧ g = a * A + b * B ∧ -B ≤ a ∧ a ≤ B ∧ -A ≤ b ∧ b ≤ A := by
  obtain ⟨g, a, b, c, d, z, e, h⟩ := common_loop B.toNat none (A := A) (B := B) (r0 := A) (r1 := B) (a := 1) (b := 0) (c := 0) (d := 1) ⟨hA, Int.le_of_lt hB, by omega, by omega, ⟨1, .inl rfl, by omega, by omega, by omega, by omega, by omega, by omega⟩, by omega, by omega⟩ (by omega) hA2 hB2
  obtain ⟨t, ht, h1, h2, h3, h4, h5, h6⟩ := h.s
  refine ⟨g, a, b, ?_, h.p, ⟨t * d, by grind⟩, ⟨-(t * c), by grind⟩, h.e0, h.ba.1, h.ba.2, h.bb.1, h.bb.2⟩
  simp [m_common, b_common, e]
/-- g is the greatest divisor of A and B -/
structure Gd (A B g : Int) : Prop where
  n : 0 ≤ g
  d : ∀ k : Int, k ∣ g ↔ k ∣ A ∧ k ∣ B
theorem dvd_mod {k a b : Int} : (k ∣ b ∧ k ∣ a % b) ↔ (k ∣ a ∧ k ∣ b) := by
  have h := Int.emod_add_mul_ediv a b
  constructor
  · rintro ⟨⟨x, hx⟩, ⟨y, hy⟩⟩
    exact ⟨⟨y + x * (a / b), by rw [← h, hy]; grind⟩, ⟨x, hx⟩⟩
  · rintro ⟨⟨x, hx⟩, ⟨y, hy⟩⟩
    exact ⟨⟨y, hy⟩, ⟨x - y * (a / b), by grind⟩⟩
theorem divisor_loop (n : Nat) : ∀ {A B r0 r1 : Int}, 0 ≤ r0 → 0 ≤ r1 → (∀ k : Int, (k ∣ r0 ∧ k ∣ r1) ↔ k ∣ A ∧ k ∣ B) → r1.toNat ≤ n → ∃ g, whileM (truM (bin gGt (getV 1) (pureM (.int 0)))) l0_divisor [some (.int r0), some (.int r1)] = .ok .nx [some (.int g), some (.int 0)] ∧ Gd A B g := by
  induction n with
  | zero =>
    intro A B r0 r1 h0 h1 h hn
    have e : r1 = 0 := by omega
    subst e
    exact ⟨r0, by rw [whileM_step]; simp, h0, fun k => by rw [← h]; exact ⟨fun x => ⟨x, Int.dvd_zero _⟩, fun x => x.1⟩⟩
  | succ n ih =>
    intro A B r0 r1 h0 h1 h hn
    rcases Int.lt_or_eq_of_le h1 with hr | hr
    · have hlt := Int.emod_lt_of_pos r0 hr
      have hge := Int.emod_nonneg r0 (Int.ne_of_gt hr)
      obtain ⟨g, e, h'⟩ := ih (A := A) (B := B) h1 hge (fun k => by rw [dvd_mod]; exact h k) (by omega)
      refine ⟨g, ?_, h'⟩
      have hb : l0_divisor [some (.int r0), some (.int r1)] = .ok .nx [some (.int r1), some (.int (r0 % r1))] := by
        have hz : r1 ≠ 0 := by omega
        simp [l0_divisor, fmod_pos hr, hz]
      rw [whileM_step]
      simp [hr, hb, e]
    · subst hr
      exact ⟨r0, by rw [whileM_step]; simp, h0, fun k => by rw [← h]; exact ⟨fun x => ⟨x, Int.dvd_zero _⟩, fun x => x.1⟩⟩
theorem v_divisor {A B : Int} (hA : 0 ≤ A) (hB : 0 ≤ B) : ∃ g, m_divisor [.int A, .int B] = .ok (.int g) [] ∧ Gd A B g := by
  obtain ⟨g, e, h⟩ := divisor_loop B.toNat (A := A) (B := B) hA hB (fun k => Iff.rfl) (Nat.le_refl _)
  exact ⟨g, by simp [m_divisor, b_divisor, e], h⟩
theorem dvd_abs {k a : Int} : k ∣ (if a < 0 then -a else a) ↔ k ∣ a := by
  split
  · exact Int.dvd_neg
  · exact Iff.rfl
end Gk15
namespace Gk15
open PySem DL
theorem Gd.mul {A B g β k : Int} (h : Gd A B g) : k ∣ β * g ↔ k ∣ β * A ∧ k ∣ β * B := by
  have e : g = (Int.gcd A B : Int) := by
    have h1 : g ∣ (Int.gcd A B : Int) := Int.dvd_coe_gcd ((h.d g).mp (Int.dvd_refl _)).1 ((h.d g).mp (Int.dvd_refl _)).2
    have h2 : (Int.gcd A B : Int) ∣ g := (h.d _).mpr ⟨Int.gcd_dvd_left .., Int.gcd_dvd_right ..⟩
    exact Int.dvd_antisymm h.n (by omega) h1 h2
  constructor
  · intro hk
    have h1 := (h.d g).mp (Int.dvd_refl _)
    exact ⟨Int.dvd_trans hk (Int.mul_dvd_mul_left _ h1.1), Int.dvd_trans hk (Int.mul_dvd_mul_left _ h1.2)⟩
  · rintro ⟨h1, h2⟩
    have h3 : k ∣ (Int.gcd (β * A) (β * B) : Int) := Int.dvd_coe_gcd h1 h2
    rw [Int.gcd_mul_left] at h3
    rw [e]
    have h4 : ((β.natAbs * Int.gcd A B : Nat) : Int) = (β.natAbs : Int) * (Int.gcd A B : Int) := by simp
    rw [h4] at h3
    rcases Int.natAbs_eq β with hb | hb
    · rw [hb]; exact h3
    · rw [hb, Int.neg_mul]; exact Int.dvd_neg.mpr h3
theorem dvd_lin {k a b u v : Int} (h1 : k ∣ a) (h2 : k ∣ b) : k ∣ u * a + v * b := Int.dvd_add (Int.dvd_trans h1 (Int.dvd_mul_left ..)) (Int.dvd_trans h2 (Int.dvd_mul_left ..))
abbrev Du (p q s x y p' q' s' : Int) : Prop := ∀ k α β : Int, (k ∣ α * p' + β * q' ∧ k ∣ β * s') ↔ (k ∣ α * p + β * q ∧ k ∣ β * s ∧ k ∣ α * x + β * y)
theorem du_main {p q s x y g a b t : Int} (hg : 0 < g) (h1 : g ∣ p) (h2 : g ∣ x) (h3 : g = a * p + b * x) (ht : Gd s (x / g * q - p / g * y) t) : Du p q s x y g (a * q + b * y) t := by
  obtain ⟨p', rfl⟩ := h1
  obtain ⟨x', rfl⟩ := h2
  have hz : g ≠ 0 := by omega
  rw [Int.mul_ediv_cancel_left _ hz, Int.mul_ediv_cancel_left _ hz] at ht
  have hu : a * p' + b * x' = 1 := by
    have : g * (a * p' + b * x') = g * 1 := by grind
    exact Int.eq_of_mul_eq_mul_left hz this
  intro k α β
  rw [ht.mul]
  constructor
  · rintro ⟨k1, k2, k3⟩
    refine ⟨?_, k2, ?_⟩
    · have := dvd_lin (u := p') (v := b) k1 k3
      have e : p' * (α * g + β * (a * q + b * y)) + b * (β * (x' * q - p' * y)) = α * (g * p') + β * q := by grind
      rw [← e]; exact this
    · have := dvd_lin (u := x') (v := -a) k1 k3
      have e : x' * (α * g + β * (a * q + b * y)) + -a * (β * (x' * q - p' * y)) = α * (g * x') + β * y := by grind
      rw [← e]; exact this
  · rintro ⟨k1, k2, k3⟩
    refine ⟨?_, k2, ?_⟩
    · have := dvd_lin (u := a) (v := b) k1 k3
      have e : a * (α * (g * p') + β * q) + b * (α * (g * x') + β * y) = α * g + β * (a * q + b * y) := by grind
      rw [← e]; exact this
    · have := dvd_lin (u := x') (v := -p') k1 k3
      have e : x' * (α * (g * p') + β * q) + -p' * (α * (g * x') + β * y) = β * (x' * q - p' * y) := by grind
      rw [← e]; exact this
abbrev T2 (x y : Int) : D := .tup [.int x, .int y]
theorem w_with_pos {p q s x y : Int} (hp : 0 ≤ p) (hp2 : p ≤ 1000000000000) (hpq : p = 0 → q = 0) (hs : 0 ≤ s) (hx : 0 ≤ x) (hx2 : x ≤ 1000000000000) :
    ∃ p' q' s', m_with_shift [T2 p q, .int s, T2 x y] = .ok (.tup [T2 p' q', .int s']) [] ∧ 0 ≤ p' ∧ p' ≤ 1000000000000 ∧ (p' = 0 → q' = 0) ∧ 0 ≤ s' ∧ Du p q s x y p' q' s' := by
  have n1 : ¬ x < 0 := by omega
  by_cases hx0 : x = 0
  · subst hx0
    by_cases hs0 : 0 < s
    · obtain ⟨g, e, h⟩ := v_divisor (A := s) (B := if y < 0 then -y else y) hs (by omega)
      refine ⟨p, q, g, by simp [m_with_shift, b_with_shift, hs0, e], hp, hp2, hpq, h.n, fun k α β => ?_⟩
      rw [h.mul]
      have ez : α * 0 + β * y = β * y := by omega
      rw [ez]
      have e3 : k ∣ β * (if y < 0 then -y else y) ↔ k ∣ β * y := by
        split
        · rw [Int.mul_neg]; exact Int.dvd_neg
        · exact Iff.rfl
      rw [e3]
    · have hs1 : s = 0 := by omega
      subst hs1
      refine ⟨p, q, if y < 0 then -y else y, by simp [m_with_shift, b_with_shift], hp, hp2, hpq, by omega, fun k α β => ?_⟩
      have ez : α * 0 + β * y = β * y := by omega
      have e3 : k ∣ β * (if y < 0 then -y else y) ↔ k ∣ β * y := by
        split
        · rw [Int.mul_neg]; exact Int.dvd_neg
        · exact Iff.rfl
      rw [ez, e3, Int.mul_zero]
      exact ⟨fun h => ⟨h.1, Int.dvd_zero _, h.2⟩, fun h => ⟨h.1, h.2.2⟩⟩
  · have hxp : 0 < x := by omega
    by_cases hp0 : p = 0
    · have hq := hpq hp0
      subst hp0 hq
      refine ⟨x, y, s, by simp [m_with_shift, b_with_shift, n1, hx0], hx, hx2, fun h => absurd h hx0, hs, fun k α β => ?_⟩
      have ez : α * 0 + β * 0 = 0 := by omega
      rw [ez]
      exact ⟨fun h => ⟨Int.dvd_zero _, h.2, h.1⟩, fun h => ⟨h.2.2, h.2.1⟩⟩
    · have hpp : 0 < p := by omega
      obtain ⟨g, a, b, e, hg, h1, h2, h3, ha1, ha2, hb1, hb2⟩ := v_common hpp hxp (by omega) (by omega)
      have hgp : g ≤ p := Int.le_of_dvd hpp h1
      have dg := divOk_of hg (by omega : g < 18446744073709551616)
      have f1 := fdiv_pos (a := x) hg
      have f2 := fdiv_pos (a := p) hg
      have b1 : x / g ≤ x := Int.ediv_le_self g hx
      have b2 : p / g ≤ p := Int.ediv_le_self g hp
      have b3 : 0 ≤ x / g := Int.ediv_nonneg hx (by omega)
      have b4 : 0 ≤ p / g := Int.ediv_nonneg hp (by omega)
      have o1 : mulOk a q = true := mulOk_l (by omega)
      have o2 : mulOk b y = true := mulOk_l (by omega)
      have o3 : mulOk (x / g) q = true := mulOk_l (by omega)
      have o4 : mulOk (p / g) y = true := mulOk_l (by omega)
      generalize hr : x / g * q - p / g * y = r at *
      obtain ⟨t, et, ht⟩ := v_divisor (A := if (if r < 0 then -r else r) > s then (if r < 0 then -r else r) else s) (B := if (if r < 0 then -r else r) < s then (if r < 0 then -r else r) else s) (by omega) (by omega)
      have ht' : Gd s r t := ⟨ht.n, fun k => by
        rw [ht.d]
        have hd : k ∣ (if r < 0 then -r else r) ↔ k ∣ r := dvd_abs
        generalize (if r < 0 then -r else r) = v at hd ⊢
        rcases Int.lt_trichotomy v s with c | c | c
        · rw [if_neg (by omega), if_pos c, hd]
        · rw [if_neg (by omega), if_neg (by omega), ← hd, c]
        · rw [if_pos (by omega), if_neg (by omega), hd]; exact And.comm⟩
      refine ⟨g, a * q + b * y, t, ?_, by omega, by omega, fun h => by omega, ht.n, ?_⟩
      · simp [m_with_shift, b_with_shift, n1, hx0, hp0, e, dg, f1, f2, o1, o2, o3, o4, hr, et]
      · exact du_main hg h1 h2 h3 (by rw [hr]; exact ht')
theorem runB_seq {n : Nat} {shs : List Sh} {thru : Bool} {c r : M Fl} {ds ds' : List D} {ρ' : Rho} (h1 : c (ds.map some ++ List.replicate (n - ds.length) none) = .ok .nx ρ') (h2 : c (ds'.map some ++ List.replicate (n - ds'.length) none) = .ok .nx ρ') : runB n shs thru (seqM c r) ds = runB n shs thru (seqM c r) ds' := by
  unfold runB seqM
  rw [h1, h2]
theorem w_with {p q s x y : Int} (hp : 0 ≤ p) (hp2 : p ≤ 1000000000000) (hpq : p = 0 → q = 0) (hs : 0 ≤ s) (hx : -1000000000000 ≤ x) (hx2 : x ≤ 1000000000000) :
    ∃ p' q' s', m_with_shift [T2 p q, .int s, T2 x y] = .ok (.tup [T2 p' q', .int s']) [] ∧ 0 ≤ p' ∧ p' ≤ 1000000000000 ∧ (p' = 0 → q' = 0) ∧ 0 ≤ s' ∧ Du p q s x y p' q' s' := by
  by_cases n1 : x < 0
  · obtain ⟨p', q', s', e, h1, h2, h3, h4, h5⟩ := w_with_pos (x := -x) (y := -y) hp hp2 hpq hs (by omega) (by omega)
    refine ⟨p', q', s', ?_, h1, h2, h3, h4, fun k α β => ?_⟩
    · have n2 : ¬ -x < 0 := by omega
      have e2 : m_with_shift [T2 p q, .int s, T2 x y] = m_with_shift [T2 p q, .int s, T2 (-x) (-y)] := by
        refine runB_seq (ρ' := [some (T2 p q), some (.int s), some (T2 (-x) (-y)), none, none, none, none, none]) ?_ ?_
        · simp [n1]
        · have n3 : ¬ 0 < x := by omega
          simp [n3]
      rw [e2]; exact e
    · rw [h5]
      have ez : α * -x + β * -y = -(α * x + β * y) := by grind
      rw [ez, Int.dvd_neg]
  · exact w_with_pos hp hp2 hpq hs (by omega) hx2
end Gk15
namespace Gk15
open PySem DL
abbrev Sp (p q s : Int) (L : List (Int × Int)) : Prop := ∀ k α β : Int, (k ∣ α * p + β * q ∧ k ∣ β * s) ↔ ∀ c ∈ L, k ∣ α * c.1 + β * c.2
abbrev cD (c : Int × Int) : D := T2 c.1 c.2
def Nr (c : Int × Int) : Prop := -1000000000000 ≤ c.1 ∧ c.1 ≤ 1000000000000 ∧ -1000000000000 ≤ c.2 ∧ c.2 ≤ 1000000000000
structure Stt (p q s : Int) (L : List (Int × Int)) : Prop where
  p0 : 0 ≤ p
  p1 : p ≤ 1000000000000
  pq : p = 0 → q = 0
  s0 : 0 ≤ s
  du : Sp p q s L
theorem form_loop (z : D) : ∀ (M L : List (Int × Int)) (p q s : Int) (u v : Option D), Stt p q s L → (∀ c ∈ M, Nr c) → ∃ p' q' s' u' v', DL.forM (gUnp 2 (gsCons (gSet 3) (gsCons (gSet 4) (gsNil)))) l0_least_form (M.map cD) [some z, some (T2 p q), some (.int s), u, v] = .ok .nx [some z, some (T2 p' q'), some (.int s'), u', v'] ∧ Stt p' q' s' (L ++ M)
  | [], L, p, q, s, u, v, h, _ => ⟨p, q, s, u, v, rfl, by rw [List.append_nil]; exact h⟩
  | c :: M, L, p, q, s, u, v, h, hM => by
    have hc := hM c (List.mem_cons_self)
    obtain ⟨p', q', s', e, h1, h2, h3, h4, h5⟩ := w_with (y := c.2) h.p0 h.p1 h.pq h.s0 hc.1 hc.2.1
    have st : Stt p' q' s' (L ++ [c]) := ⟨h1, h2, h3, h4, fun k α β => by
      rw [h5, ← and_assoc, h.du]
      constructor
      · rintro ⟨a, b⟩ d hd
        rcases List.mem_append.mp hd with hd | hd
        · exact a d hd
        · rw [List.mem_singleton.mp hd]; exact b
      · intro a
        exact ⟨fun d hd => a d (List.mem_append_left _ hd), a c (List.mem_append_right _ (List.mem_singleton.mpr rfl))⟩⟩
    obtain ⟨p2, q2, s2, u2, v2, e2, st2⟩ := form_loop z M (L ++ [c]) p' q' s' (some (.int c.1)) (some (.int c.2)) st fun d hd => hM d (List.mem_cons_of_mem _ hd)
    refine ⟨p2, q2, s2, u2, v2, ?_, by rw [List.append_assoc] at st2; exact st2⟩
    rw [List.map_cons, s_forC]
    have hb : l0_least_form [some z, some (T2 p q), some (.int s), some (.int c.1), some (.int c.2)] = .ok .nx [some z, some (T2 p' q'), some (.int s'), some (.int c.1), some (.int c.2)] := by
      simp [l0_least_form, e]
    simp [hb, e2]
/-- what least_form answers -/
def basis (p q s : Int) : List (Int × Int) := if p = 0 then (if 0 < s then [(0, s)] else []) else if s = 0 then [(p, q)] else [(p, q % s), (0, s)]
theorem w_form {z : D} {L : List (Int × Int)} (hz : seqA z = some (L.map cD)) (hL : ∀ c ∈ L, Nr c) (hsz : L.length ≤ 1000000) : ∃ p q s, m_least_form [z] = .ok (.tup ((basis p q s).map cD)) [] ∧ Stt p q s L := by
  obtain ⟨p, q, s, u, v, e, st⟩ := form_loop z L [] 0 0 0 none none ⟨by omega, by omega, fun h => h, by omega, fun k α β => ⟨fun _ c hc => absurd hc List.not_mem_nil, fun _ => ⟨by simp, by simp⟩⟩⟩ hL
  refine ⟨p, q, s, ?_, by simpa using st⟩
  have hs0 := st.s0
  unfold basis
  by_cases hp : p = 0
  · by_cases hs : 0 < s
    · simp [m_least_form, b_least_form, hz, e, hp, hs]
    · simp [m_least_form, b_least_form, hz, e, hp, hs]
  · by_cases hs : s = 0
    · simp [m_least_form, b_least_form, hz, e, hp, hs]
    · have hs2 : 0 < s := by omega
      simp [m_least_form, b_least_form, hz, e, hp, hs, fmod_pos hs2]
end Gk15
namespace Gk15
open PySem DL
def rm (c v : Int × Int) : Int := if 0 < c.1 then v.1 / c.1 else v.2 / c.2
def rd (v c : Int × Int) : Int × Int := (v.1 - rm c v * c.1, v.2 - rm c v * c.2)
def RdOk : List (Int × Int) → Int × Int → Prop
  | [], _ => True
  | c :: B, v => (if 0 < c.1 then 0 < c.1 ∧ divOk c.1 = true else 0 < c.2 ∧ divOk c.2 = true) ∧ (rm c v).natAbs < 18446744073709551616 ∧ RdOk B (rd v c)
theorem within_loop (z w : D) : ∀ (B : List (Int × Int)) (v : Int × Int) (u1 u2 u3 : Option D), RdOk B v → ∃ u1' u2' u3', DL.forM (gUnp 2 (gsCons (gSet 4) (gsCons (gSet 5) (gsNil)))) l0_within (B.map cD) [some z, some w, some (.int v.1), some (.int v.2), u1, u2, u3] = .ok .nx [some z, some w, some (.int (B.foldl rd v).1), some (.int (B.foldl rd v).2), u1', u2', u3']
  | [], v, u1, u2, u3, _ => ⟨u1, u2, u3, rfl⟩
  | c :: B, v, u1, u2, u3, h => by
    obtain ⟨h1, h2, h3⟩ := h
    obtain ⟨u1', u2', u3', e⟩ := within_loop z w B (rd v c) (some (.int c.1)) (some (.int c.2)) (some (.int (rm c v))) h3
    refine ⟨u1', u2', u3', ?_⟩
    have o1 : mulOk (rm c v) c.1 = true := mulOk_l h2
    have o2 : mulOk (rm c v) c.2 = true := mulOk_l h2
    have hb : l0_within [some z, some w, some (.int v.1), some (.int v.2), some (.int c.1), some (.int c.2), u3] = .ok .nx [some z, some w, some (.int (rd v c).1), some (.int (rd v c).2), some (.int c.1), some (.int c.2), some (.int (rm c v))] := by
      unfold rd
      by_cases hc : 0 < c.1
      · rw [if_pos hc] at h1
        have hr : rm c v = v.1 / c.1 := if_pos hc
        rw [hr] at o1 o2 ⊢
        simp [l0_within, hc, h1.2, fdiv_pos hc, o1, o2]
      · rw [if_neg hc] at h1
        have hr : rm c v = v.2 / c.2 := if_neg hc
        rw [hr] at o1 o2 ⊢
        simp [l0_within, hc, h1.2, fdiv_pos h1.1, o1, o2]
    rw [List.map_cons, s_forC]
    simp [hb, e]
theorem reduced_loop (z w : D) : ∀ (B : List (Int × Int)) (v : Int × Int) (u1 u2 u3 : Option D), RdOk B v → ∃ u1' u2' u3', DL.forM (gUnp 2 (gsCons (gSet 4) (gsCons (gSet 5) (gsNil)))) l0__law_reduced (B.map cD) [some z, some w, some (.int v.1), some (.int v.2), u1, u2, u3] = .ok .nx [some z, some w, some (.int (B.foldl rd v).1), some (.int (B.foldl rd v).2), u1', u2', u3']
  | [], v, u1, u2, u3, _ => ⟨u1, u2, u3, rfl⟩
  | c :: B, v, u1, u2, u3, h => by
    obtain ⟨h1, h2, h3⟩ := h
    obtain ⟨u1', u2', u3', e⟩ := reduced_loop z w B (rd v c) (some (.int c.1)) (some (.int c.2)) (some (.int (rm c v))) h3
    refine ⟨u1', u2', u3', ?_⟩
    have o1 : mulOk (rm c v) c.1 = true := mulOk_l h2
    have o2 : mulOk (rm c v) c.2 = true := mulOk_l h2
    have hb : l0__law_reduced [some z, some w, some (.int v.1), some (.int v.2), some (.int c.1), some (.int c.2), u3] = .ok .nx [some z, some w, some (.int (rd v c).1), some (.int (rd v c).2), some (.int c.1), some (.int c.2), some (.int (rm c v))] := by
      unfold rd
      by_cases hc : 0 < c.1
      · rw [if_pos hc] at h1
        have hr : rm c v = v.1 / c.1 := if_pos hc
        rw [hr] at o1 o2 ⊢
        simp [l0__law_reduced, hc, h1.2, fdiv_pos hc, o1, o2]
      · rw [if_neg hc] at h1
        have hr : rm c v = v.2 / c.2 := if_neg hc
        rw [hr] at o1 o2 ⊢
        simp [l0__law_reduced, hc, h1.2, fdiv_pos h1.1, o1, o2]
    rw [List.map_cons, s_forC]
    simp [hb, e]
theorem w_within {B : List (Int × Int)} {v : Int × Int} (h : RdOk B v) (hs : B.length ≤ 2) : m_within [.tup (B.map cD), cD v] = .ok (cD (B.foldl rd v)) [] := by
  obtain ⟨u1, u2, u3, e⟩ := within_loop (.tup (B.map cD)) (cD v) B v none none none h
  have hz : B.length ≤ 16777216 := by omega
  simp [m_within, b_within, e, hz]
theorem w_reduced {B : List (Int × Int)} {v : Int × Int} (h : RdOk B v) (hs : B.length ≤ 2) : m__law_reduced [.tup (B.map cD), cD v] = .ok (cD (B.foldl rd v)) [] := by
  obtain ⟨u1, u2, u3, e⟩ := reduced_loop (.tup (B.map cD)) (cD v) B v none none none h
  have hz : B.length ≤ 16777216 := by omega
  simp [m__law_reduced, b__law_reduced, e, hz]
end Gk15
namespace Gk15
open PySem DL
theorem div_back {a b : Int} (h : b ∣ a) : a - a / b * b = 0 := by
  have := Int.ediv_mul_cancel h
  omega
theorem red_zero {p q s : Int} {L : List (Int × Int)} (h : Stt p q s L) {c : Int × Int} (hc : c ∈ L) : (basis p q s).foldl rd c = (0, 0) := by
  have f1 : p ∣ c.1 := by
    have := ((h.du p 1 0).mp ⟨by simp, by simp⟩) c hc
    simpa using this
  have f2 : p * s ∣ p * c.2 - q * c.1 := by
    have := ((h.du (p * s) (-q) p).mp ⟨by have e : -q * p + p * q = 0 := by grind
                                          rw [e]; exact Int.dvd_zero _, Int.dvd_refl _⟩) c hc
    have e : -q * c.1 + p * c.2 = p * c.2 - q * c.1 := by grind
    rw [← e]; exact this
  obtain ⟨x, y⟩ := c
  simp only at f1 f2
  unfold basis
  by_cases hp : p = 0
  · have hq := h.pq hp
    subst hp hq
    have hx : x = 0 := Int.zero_dvd.mp f1
    subst hx
    have f3 : s ∣ y := by
      have := ((h.du s 0 1).mp ⟨by simp, by simp⟩) _ hc
      simpa using this
    by_cases hs : 0 < s
    · simp [hs, rd, rm]
      exact div_back f3
    · have hs0 := h.s0
      have : s = 0 := by omega
      subst this
      have hy : y = 0 := Int.zero_dvd.mp f3
      subst hy
      simp
  · have hpp : 0 < p := by have := h.p0; omega
    obtain ⟨m, rfl⟩ := f1
    have hm : p * m / p = m := Int.mul_ediv_cancel_left _ hp
    by_cases hs : s = 0
    · subst hs
      rw [Int.mul_zero] at f2
      have e := Int.zero_dvd.mp f2
      have e2 : p * (y - m * q) = p * 0 := by grind
      have e3 := Int.eq_of_mul_eq_mul_left hp e2
      simp [hp, rd, rm, hpp, hm]
      exact ⟨by grind, e3⟩
    · have e2 : p * y - q * (p * m) = p * (y - m * q) := by grind
      rw [e2] at f2
      have f3 : s ∣ y - m * q := Int.dvd_of_mul_dvd_mul_left hp f2
      have f4 : s ∣ y - m * (q % s) := by
        have e4 := Int.emod_add_mul_ediv q s
        obtain ⟨t, ht⟩ := f3
        exact ⟨t + m * (q / s), by grind⟩
      have e5 : p * m - m * p = 0 := by grind
      simp [hp, hs, rd, rm, hpp, hm, e5]
      exact div_back f4
end Gk15
namespace Gk15
open PySem DL
abbrev mi (c d : Int × Int) : Int := c.1 * d.2 - c.2 * d.1
theorem area_dvd {p q s : Int} {L : List (Int × Int)} (h : Stt p q s L) (k : Int) : (∀ c ∈ L, ∀ d ∈ L, k ∣ mi c d) ↔ k ∣ p * s := by
  constructor
  · intro a
    have a1 : ∀ d ∈ L, k ∣ -q * d.1 + p * d.2 := fun d hd => by
      have := ((h.du k d.2 (-d.1)).mpr fun c hc => by
        have e : d.2 * c.1 + -d.1 * c.2 = mi c d := by unfold mi; grind
        rw [e]; exact a c hc d hd).1
      have e : d.2 * p + -d.1 * q = -q * d.1 + p * d.2 := by grind
      rw [← e]; exact this
    exact ((h.du k (-q) p).mpr a1).2
  · intro a c hc d hd
    have a1 := (h.du k (-q) p).mp ⟨by have e : -q * p + p * q = 0 := by grind
                                      rw [e]; exact Int.dvd_zero _, a⟩ d hd
    have a2 := (h.du k (-s) 0).mp ⟨by have e : -s * p + 0 * q = -(p * s) := by grind
                                      rw [e]; exact Int.dvd_neg.mpr a, by simp⟩ d hd
    have := (h.du k d.2 (-d.1)).mp ⟨by have e : d.2 * p + -d.1 * q = -q * d.1 + p * d.2 := by grind
                                       rw [e]; exact a1, by
                                         have e : -d.1 * s = -s * d.1 + 0 * d.2 := by grind
                                         rw [e]; exact a2⟩ c hc
    have e : mi c d = d.2 * c.1 + -d.1 * c.2 := by unfold mi; grind
    rw [e]; exact this
theorem size_dvd {p q s : Int} {L : List (Int × Int)} (h : Stt p q s L) (k : Int) : (∀ c ∈ L, k ∣ c.1 ∧ k ∣ c.2) ↔ k ∣ p ∧ k ∣ q ∧ k ∣ s := by
  have h1 := h.du k 1 0
  have h2 := h.du k 0 1
  simp at h1 h2
  constructor
  · intro a
    have b1 := h1.mpr fun x y hc => (a (x, y) hc).1
    have b2 := h2.mpr fun x y hc => (a (x, y) hc).2
    exact ⟨b1, b2.1, b2.2⟩
  · rintro ⟨a, b, c⟩ ⟨x, y⟩ hd
    exact ⟨h1.mp a x y hd, h2.mp ⟨b, c⟩ x y hd⟩
theorem mi_small {c d : Int × Int} (hc : Nr c) (hd : Nr d) : (mi c d).natAbs ≤ 2000000000000000000000000 := by
  obtain ⟨c1, c2, c3, c4⟩ := hc
  obtain ⟨d1, d2, d3, d4⟩ := hd
  have e1 : (c.1 * d.2).natAbs ≤ 1000000000000 * 1000000000000 := by rw [Int.natAbs_mul]; exact Nat.mul_le_mul (by omega) (by omega)
  have e2 : (c.2 * d.1).natAbs ≤ 1000000000000 * 1000000000000 := by rw [Int.natAbs_mul]; exact Nat.mul_le_mul (by omega) (by omega)
  unfold mi
  omega
theorem s_small {p q s : Int} {L : List (Int × Int)} (h : Stt p q s L) (hL : ∀ c ∈ L, Nr c) : s ≤ 2000000000000000000000000 := by
  by_cases hs : s = 0
  · omega
  have hs0 := h.s0
  by_cases hp : p = 0
  · have hq := h.pq hp
    subst hp hq
    have : ¬ ∀ c ∈ L, (0 : Int) ∣ c.2 := fun a => hs (Int.zero_dvd.mp (by
      have := ((h.du 0 0 1).mpr fun c hc => by simpa using a c hc).2
      simpa using this))
    obtain ⟨c, hc, hz⟩ : ∃ c ∈ L, ¬ (0 : Int) ∣ c.2 := Classical.byContradiction fun n => this fun c hc => Classical.byContradiction fun m => n ⟨c, hc, m⟩
    have f3 : s ∣ c.2 := by
      have := ((h.du s 0 1).mp ⟨by simp, by simp⟩) _ hc
      simpa using this
    have h0 : c.2 ≠ 0 := fun e => hz (e ▸ Int.dvd_refl _)
    obtain ⟨_, _, n3, n4⟩ := hL c hc
    have := Int.natAbs_dvd_natAbs.mpr f3
    have := Nat.le_of_dvd (by omega) this
    omega
  · have hpp : 0 < p := by have := h.p0; omega
    have hps : p * s ≠ 0 := Int.mul_ne_zero hp hs
    obtain ⟨c, hc, d, hd, hz⟩ : ∃ c ∈ L, ∃ d ∈ L, mi c d ≠ 0 := Classical.byContradiction fun n => hps (Int.zero_dvd.mp ((area_dvd h 0).mp fun c hc d hd => Classical.byContradiction fun m => n ⟨c, hc, d, hd, fun e => m (e ▸ Int.dvd_refl _)⟩))
    have f := (area_dvd h (p * s)).mpr (Int.dvd_refl _) c hc d hd
    have := Int.natAbs_dvd_natAbs.mpr f
    have := Nat.le_of_dvd (by omega) this
    have hm := mi_small (hL c hc) (hL d hd)
    have := mul_le' (x := s) (z := p) hs0 hpp
    rw [Int.mul_comm] at this
    omega
end Gk15
namespace Gk15
open PySem DL
theorem divOk_big {m : Int} (h : 0 < m) (h2 : m ≤ 2000000000000000000000000) : divOk m = true := by
  unfold divOk
  rw [Bool.or_eq_true]
  right
  have h3 : m.natAbs < 2 ^ 100 := by omega
  exact decide_eq_true ⟨h, Nat.lt_of_lt_of_le h3 (Nat.pow_le_pow_right (by decide) (by decide))⟩
theorem div_small {x p : Int} (hp : 0 < p) (h1 : -10000000000000 ≤ x) (h2 : x ≤ 10000000000000) : -10000000000000 ≤ x / p ∧ x / p ≤ 10000000000000 := by
  constructor
  · apply Int.le_ediv_of_mul_le hp
    have := mul_le' (x := 10000000000000) (by omega) hp
    omega
  · apply Int.ediv_le_of_le_mul hp
    have := mul_le' (x := 10000000000000) (by omega) hp
    omega
theorem rdok {p q s : Int} {L : List (Int × Int)} (h : Stt p q s L) (hL : ∀ c ∈ L, Nr c) {v : Int × Int} (hv : Nr v) : RdOk (basis p q s) v := by
  have hs := s_small h hL
  have hs0 := h.s0
  have hp0 := h.p0
  have hp1 := h.p1
  obtain ⟨v1, v2, v3, v4⟩ := hv
  obtain ⟨x, y⟩ := v
  simp only at v1 v2 v3 v4
  unfold basis
  by_cases hp : p = 0
  · by_cases hs1 : 0 < s
    · have d := div_small hs1 (x := y) (by omega) (by omega)
      simp [hp, hs1, RdOk, rm, divOk_big hs1 hs]
      omega
    · simp [hp, hs1, RdOk]
  · have hpp : 0 < p := by omega
    have d := div_small hpp (x := x) (by omega) (by omega)
    have dp := divOk_big hpp (by omega)
    by_cases hs1 : s = 0
    · simp [hp, hs1, RdOk, rm, hpp, dp]
      omega
    · have hsp : 0 < s := by omega
      have b1 := Int.emod_nonneg q hs1
      have b2 := Int.emod_lt_of_pos q hsp
      have e : (y - x / p * (q % s)) / s ≤ 20000000000000 ∧ -20000000000000 ≤ (y - x / p * (q % s)) / s := by
        generalize q % s = r at *
        generalize x / p = m at *
        have m1 : 0 ≤ (10000000000000 - m) * r := Int.mul_nonneg (by omega) b1
        have m2 : 0 ≤ (10000000000000 + m) * r := Int.mul_nonneg (by omega) b1
        have y1 := mul_le' (x := 10000000000000) (by omega) hsp
        have e1 : (10000000000000 - m) * r = 10000000000000 * r - m * r := by grind
        have e2 : (10000000000000 + m) * r = 10000000000000 * r + m * r := by grind
        constructor
        · apply Int.ediv_le_of_le_mul hsp
          omega
        · apply Int.le_ediv_of_mul_le hsp
          omega
      simp [hp, hs1, RdOk, rm, rd, hpp, dp, divOk_big hsp hs, hsp]
      omega
end Gk15
namespace Gk15
open PySem DL
theorem v_int (i : Int) : m_is_integer [.int i] = .ok (.bl true) [] := by simp [m_is_integer, b_is_integer]
theorem v_btw {i a b : Int} (h1 : a ≤ i) (h2 : i ≤ b) : m_is_between [.int i, .int a, .int b] = .ok (.bl true) [] := by
  simp [m_is_between, b_is_between, v_int, h1, h2]
theorem v_cell {c : Int × Int} (h : Nr c) : m_is_cell [cD c] = .ok (.bl true) [] := by
  obtain ⟨h1, h2, h3, h4⟩ := h
  have a := v_btw (i := c.1) (a := -1000000000000) (b := 1000000000000) h1 h2
  have b := v_btw (i := c.2) (a := -1000000000000) (b := 1000000000000) h3 h4
  simp [m_is_cell, b_is_cell, a, b]
theorem cells_lc (a z : D) : ∀ (M : List (Int × Int)) (u : Option D), (∀ c ∈ M, Nr c) → ∃ u', lcL [2] (gSet 2) yesM (callM 1 [] m_is_cell (consM (getV 2) nilM)) (M.map cD) [some a, some z, u] = .ok (M.map fun _ => .bl true) [some a, some z, u']
  | [], u, _ => ⟨u, rfl⟩
  | c :: M, u, h => by
    obtain ⟨u', e⟩ := cells_lc a z M none fun d hd => h d (List.mem_cons_of_mem _ hd)
    refine ⟨u', ?_⟩
    have hc := v_cell (h c List.mem_cons_self)
    simp [hc, e]
theorem all_true (M : List (Int × Int)) : gAll [.lst (M.map fun _ => .bl true)] = some (.bl true) := by
  induction M with
  | nil => simp [gAll]
  | cons c M ih => simp [gAll] at ih ⊢; exact ih
theorem i2l {xs : List D} : isi2D "list" "tuple" (.lst xs) = some (.bl true) := by rfl
theorem i2t {xs : List D} : isi2D "list" "tuple" (.tup xs) = some (.bl true) := by rfl
theorem v_need {pt z : D} {L : List (Int × Int)} (hz : z = .lst (L.map cD) ∨ z = .tup (L.map cD)) (hL : ∀ c ∈ L, Nr c) (hl : L.length ≤ 200) : m_need_shifts [pt, z] = .ok .non [] := by
  obtain ⟨u', e⟩ := cells_lc pt z L none hL
  have h1 : ¬ (200 : Int) < (L.length : Int) := by omega
  have h2 : L.length ≤ 16777216 := by omega
  have ha := all_true L
  rcases hz with rfl | rfl
  · simp [m_need_shifts, b_need_shifts, m_is_list, b_is_list, e, h1, h2, ha, i2l, i2t, -s_all, -s_lc1, -s_lc0]
  · simp [m_need_shifts, b_need_shifts, m_is_list, b_is_list, e, h1, h2, ha, i2l, i2t, -s_all, -s_lc1, -s_lc0]
/-- the form's row -/
abbrev bD (p q s : Int) : D := .tup ((basis p q s).map cD)
theorem basis_len (p q s : Int) : (basis p q s).length ≤ 2 := by
  unfold basis
  split
  · split <;> simp
  · split <;> simp
section
variable {z : D} {L : List (Int × Int)} {p q s : Int}
theorem v_lattice (hz : z = .lst (L.map cD) ∨ z = .tup (L.map cD)) (hL : ∀ c ∈ L, Nr c) (hl : L.length ≤ 200) (e : m_least_form [z] = .ok (bD p q s) []) : m_lattice [z] = .ok (bD p q s) [] := by
  simp [m_lattice, b_lattice, v_need hz hL hl, e]
theorem v_rest {v : Int × Int} (hz : z = .lst (L.map cD) ∨ z = .tup (L.map cD)) (hL : ∀ c ∈ L, Nr c) (hl : L.length ≤ 200) (e : m_least_form [z] = .ok (bD p q s) []) (st : Stt p q s L) (hv : Nr v) : m_rest_of [z, cD v] = .ok (cD ((basis p q s).foldl rd v)) [] := by
  have hw := w_within (rdok st hL hv) (basis_len p q s)
  simp [m_rest_of, b_rest_of, v_need hz hL hl, e, v_cell hv, hw]
theorem v_in {v : Int × Int} (hz : z = .lst (L.map cD) ∨ z = .tup (L.map cD)) (hL : ∀ c ∈ L, Nr c) (hl : L.length ≤ 200) (e : m_least_form [z] = .ok (bD p q s) []) (st : Stt p q s L) (hv : Nr v) (b : Bool) (hb : gEq (cD ((basis p q s).foldl rd v)) (T2 0 0) = some (.bl b)) : m_in_lattice [z, cD v] = .ok (.bl b) [] := by
  have hw := w_within (rdok st hL hv) (basis_len p q s)
  simp [m_in_lattice, b_in_lattice, m_is_in, b_is_in, v_need hz hL hl, e, v_cell hv, hw, hb]
theorem v_many (hz : z = .lst (L.map cD) ∨ z = .tup (L.map cD)) (hL : ∀ c ∈ L, Nr c) (hl : L.length ≤ 200) (e : m_least_form [z] = .ok (bD p q s) []) (st : Stt p q s L) : m_many_classes [z] = .ok (if p * s = 0 then .non else .int (p * s)) [] := by
  have h0 := st.p0
  have h1 := st.p1
  have o : mulOk p s = true := mulOk_l (by omega)
  by_cases hp : p = 0
  · by_cases hs : 0 < s
    · simp [m_many_classes, b_many_classes, m_size_of, b_size_of, v_need hz hL hl, e, basis, hp, hs]
    · simp [m_many_classes, b_many_classes, m_size_of, b_size_of, v_need hz hL hl, e, basis, hp, hs]
  · by_cases hs : s = 0
    · simp [m_many_classes, b_many_classes, m_size_of, b_size_of, v_need hz hL hl, e, basis, hp, hs]
    · simp [m_many_classes, b_many_classes, m_size_of, b_size_of, v_need hz hL hl, e, basis, hp, hs, o]
end
end Gk15
namespace Gk15
open PySem DL
theorem pickD {k : Int} {xs ds : List D} (h : Pen k xs) (hk : k ≤ 99990) (hd : 0 < ds.length) (hl : ds.length ≤ 1000000) : ∃ d ∈ ds, ∃ ys, m__law_pick [.lst xs, .lst ds] = .ok d [some (.lst ys)] ∧ Pen (k + 1) ys := by
  obtain ⟨v, ys, e, p, h1, h2⟩ := h.draw (by omega) (m := ds.length) (by omega) (by omega)
  have h3 : v.toNat < ds.length := by omega
  have ha : L2.atI ds v = some ds[v.toNat] := atI_nat h1 (List.getElem?_eq_getElem h3)
  exact ⟨_, List.getElem_mem h3, ys, by simp [m__law_pick, b__law_pick, e, ha], p⟩
end Gk15
namespace Gk15
open PySem DL
theorem ints_map : ∀ xs : List Int, intsD (xs.map D.int) = some xs
  | [] => rfl
  | x :: xs => by
    have e : intsD ((x :: xs).map D.int) = (intsD (xs.map D.int)).map (x :: ·) := rfl
    rw [e, ints_map xs]; rfl
def big (c : Int × Int) : Bool := decide (100000000000 < max (if c.1 < 0 then -c.1 else c.1) (if c.2 < 0 then -c.2 else c.2))
theorem w11 : gPow (.int 10) (.int 11) = some (.int 100000000000) := powOk (k := 11) (by decide) (by decide)
theorem far_lc (y0 y1 y2 y3 y4 y5 y6 y7 y8 y9 : Option D) : ∀ (M : List (Int × Int)) (u : Option D), ∃ u', lcL [10] (gSet 10) (truM (bin gGt (appM gMax2 (consM (appM gAbs (consM (bin gIx (getV 10) (pureM (.int 0))) (nilM))) (consM (appM gAbs (consM (bin gIx (getV 10) (pureM (.int 1))) (nilM))) (nilM)))) (bin gPow (pureM (.int 10)) (pureM (.int 11))))) (getV 10) (M.map cD) [y0, y1, y2, y3, y4, y5, y6, y7, y8, y9, u] = .ok ((M.filter big).map cD) [y0, y1, y2, y3, y4, y5, y6, y7, y8, y9, u']
  | [], u => ⟨u, rfl⟩
  | c :: M, u => by
    obtain ⟨u', e⟩ := far_lc y0 y1 y2 y3 y4 y5 y6 y7 y8 y9 M none
    refine ⟨u', ?_⟩
    have hb : decide (100000000000 < (if (if c.2 < 0 then -c.2 else c.2) > (if c.1 < 0 then -c.1 else c.1) then (if c.2 < 0 then -c.2 else c.2) else (if c.1 < 0 then -c.1 else c.1))) = big c := by
      unfold big
      rw [decide_eq_decide]
      split <;> split <;> split <;> omega
    rw [List.filter_cons]
    cases hc : big c with
    | true => rw [hc] at hb; rw [← hb] at hc; simp [w11, -s_powI, hb, e]
    | false => rw [hc] at hb; simp [w11, -s_powI, hb, e]
theorem xs_lc (y0 y1 y2 y3 y4 y5 y6 y7 y8 y9 : Option D) : ∀ (M : List (Int × Int)) (u : Option D), ∃ u', lcL [10] (gSet 10) yesM (bin gIx (getV 10) (pureM (.int 0))) (M.map cD) [y0, y1, y2, y3, y4, y5, y6, y7, y8, y9, u] = .ok ((M.map (·.1)).map D.int) [y0, y1, y2, y3, y4, y5, y6, y7, y8, y9, u']
  | [], u => ⟨u, rfl⟩
  | c :: M, u => by
    obtain ⟨u', e⟩ := xs_lc y0 y1 y2 y3 y4 y5 y6 y7 y8 y9 M none
    exact ⟨u', by simp [e, -List.map_map]⟩
theorem ys_lc (y0 y1 y2 y3 y4 y5 y6 y7 y8 y9 : Option D) : ∀ (M : List (Int × Int)) (u : Option D), ∃ u', lcL [10] (gSet 10) yesM (bin gIx (getV 10) (pureM (.int 1))) (M.map cD) [y0, y1, y2, y3, y4, y5, y6, y7, y8, y9, u] = .ok ((M.map (·.2)).map D.int) [y0, y1, y2, y3, y4, y5, y6, y7, y8, y9, u']
  | [], u => ⟨u, rfl⟩
  | c :: M, u => by
    obtain ⟨u', e⟩ := ys_lc y0 y1 y2 y3 y4 y5 y6 y7 y8 y9 M none
    exact ⟨u', by simp [e, -List.map_map]⟩
/-- those that a shift's reduction leaves -/
theorem red_lc {p q s : Int} {L : List (Int × Int)} (st : Stt p q s L) (hL : ∀ c ∈ L, Nr c) (y0 y1 y2 y3 y5 y6 y7 y8 y9 : Option D) : ∀ (M : List (Int × Int)) (u : Option D), (∀ c ∈ M, c ∈ L) → ∃ u', lcL [10] (gSet 10) (truM (bin gNe (callM 2 [] m__law_reduced (consM (getV 4) (consM (getV 10) (nilM)))) (appM gTup (consM (pureM (.int 0)) (consM (pureM (.int 0)) (nilM)))))) (getV 10) (M.map cD) [y0, y1, y2, y3, some (bD p q s), y5, y6, y7, y8, y9, u] = .ok [] [y0, y1, y2, y3, some (bD p q s), y5, y6, y7, y8, y9, u']
  | [], u, _ => ⟨u, rfl⟩
  | c :: M, u, h => by
    obtain ⟨u', e⟩ := red_lc st hL y0 y1 y2 y3 y5 y6 y7 y8 y9 M none fun d hd => h d (List.mem_cons_of_mem _ hd)
    have hc := h c List.mem_cons_self
    have hw := w_reduced (rdok st hL (hL c hc)) (basis_len p q s)
    rw [red_zero st hc] at hw
    have hq : gNe (cD (0, 0)) (T2 0 0) = some (.bl false) := eqe_P2.gNe (by decide) (0, 0) (0, 0)
    exact ⟨u', by simp [hw, hq, e]⟩
theorem tups_lc (y0 y1 y2 y3 y4 y5 y6 y7 y8 y9 : Option D) : ∀ (M : List (Int × Int)) (u : Option D), ∃ u', lcL [10] (gSet 10) (notT (truM (un1 (isiD "tuple") (getV 10)))) (getV 10) (M.map cD) [y0, y1, y2, y3, y4, y5, y6, y7, y8, y9, u] = .ok [] [y0, y1, y2, y3, y4, y5, y6, y7, y8, y9, u']
  | [], u => ⟨u, rfl⟩
  | c :: M, u => by
    obtain ⟨u', e⟩ := tups_lc y0 y1 y2 y3 y4 y5 y6 y7 y8 y9 M none
    exact ⟨u', by simp [e]⟩
theorem mod_lt {p q s : Int} (hs : 0 < s) : 0 ≤ q % s ∧ q % s < s := ⟨Int.emod_nonneg _ (by omega), Int.emod_lt_of_pos _ hs⟩
theorem nil_ne {L : List (Int × Int)} : gNe (.lst (L.map cD)) (.lst []) = some (.bl (!decide (L = []))) := eqe_P2.lst.gNe (by decide) L []
theorem nil_eq {L : List (Int × Int)} : gEq (.lst (L.map cD)) (.lst []) = some (.bl (decide (L = []))) := eqe_P2.lst.gEq (by decide) L []
theorem nil_tq {L : List (Int × Int)} : gEq (.tup (L.map cD)) (.tup []) = some (.bl (decide (L = []))) := eqe_P2.tupL.gEq (by decide) L []
end Gk15
namespace Gk15
open PySem DL
theorem okT_c (c : Int × Int) (h1 : c.1.natAbs < 1000000000000000000000000000000000000000000000000000000000000) (h2 : c.2.natAbs < 1000000000000000000000000000000000000000000000000000000000000) : okT (cD c) = true := by
  unfold okT
  have a : inB (cD c) = true := by
    show (decide _ && (decide _ && true)) = true
    rw [decide_eq_true h1, decide_eq_true h2]; rfl
  rw [a]; rfl
theorem q_small {p q : Int} {L : List (Int × Int)} (st : Stt p q 0 L) (hL : ∀ c ∈ L, Nr c) (hp : 0 < p) : q.natAbs ≤ 1000000000000000000000000 := by
  obtain ⟨c, hc, h0⟩ : ∃ c ∈ L, c.1 ≠ 0 := Classical.byContradiction fun n => by
    have : (0 : Int) ∣ 1 * p + 0 * q := ((st.du 0 1 0).mpr fun c hc => by
      have : c.1 = 0 := Classical.byContradiction fun m => n ⟨c, hc, m⟩
      simp [this]).1
    have := Int.zero_dvd.mp this
    omega
  have e := Int.zero_dvd.mp (((st.du 0 (-q) p).mp ⟨by rw [show -q * p + p * q = 0 by grind]; exact Int.dvd_zero _, by simp⟩) c hc)
  have e2 : q * c.1 = p * c.2 := by grind
  obtain ⟨n1, n2, n3, n4⟩ := hL c hc
  have e3 : q.natAbs * c.1.natAbs = p.natAbs * c.2.natAbs := by rw [← Int.natAbs_mul, ← Int.natAbs_mul, e2]
  have e4 : p.natAbs * c.2.natAbs ≤ 1000000000000 * 1000000000000 := Nat.mul_le_mul (by have := st.p1; omega) (by omega)
  have e5 : q.natAbs * 1 ≤ q.natAbs * c.1.natAbs := Nat.mul_le_mul_left _ (by omega)
  omega
theorem rd_small {p q s : Int} {L : List (Int × Int)} (st : Stt p q s L) (hL : ∀ c ∈ L, Nr c) {v : Int × Int} (hv : Nr v) : okT (cD ((basis p q s).foldl rd v)) = true := by
  have hs := s_small st hL
  have hs0 := st.s0
  have hp0 := st.p0
  have hp1 := st.p1
  obtain ⟨v1, v2, v3, v4⟩ := hv
  obtain ⟨x, y⟩ := v
  simp only at v1 v2 v3 v4
  apply okT_c
  all_goals
    unfold basis
    by_cases hp : p = 0
    · by_cases hs1 : 0 < s
      · have d1 := Int.emod_nonneg y (Int.ne_of_gt hs1)
        have d2 := Int.emod_lt_of_pos y hs1
        have d3 := Int.emod_add_mul_ediv y s
        simp [hp, hs1, rd, rm]
        try rw [Int.mul_comm] at d3
        try omega
      · simp [hp, hs1]
        omega
    · have hpp : 0 < p := by omega
      have d1 := Int.emod_nonneg x (Int.ne_of_gt hpp)
      have d2 := Int.emod_lt_of_pos x hpp
      have d3 := Int.emod_add_mul_ediv x p
      rw [Int.mul_comm] at d3
      have d4 := div_small hpp (x := x) (by omega) (by omega)
      by_cases hs1 : s = 0
      · subst hs1
        have hq := q_small st hL hpp
        have m1 : (x / p * q).natAbs ≤ 10000000000000 * 1000000000000000000000000 := by rw [Int.natAbs_mul]; exact Nat.mul_le_mul (by omega) hq
        simp [hp, rd, rm, hpp]
        omega
      · have hsp : 0 < s := by omega
        simp [hp, hs1, rd, rm, hpp]
        first
          | omega
          | generalize y - x / p * (q % s) = w
            have f1 := Int.emod_nonneg w hs1
            have f2 := Int.emod_lt_of_pos w hsp
            have f3 := Int.emod_add_mul_ediv w s
            rw [Int.mul_comm] at f3
            omega
end Gk15
namespace Gk15
open PySem DL
theorem uniq {p q s p' q' s' : Int} {L L' : List (Int × Int)} (h : Stt p q s L) (h' : Stt p' q' s' L') (hm : ∀ c, c ∈ L ↔ c ∈ L') : p = p' ∧ s = s' ∧ basis p q s = basis p' q' s' := by
  have du : ∀ k α β : Int, (k ∣ α * p + β * q ∧ k ∣ β * s) ↔ (k ∣ α * p' + β * q' ∧ k ∣ β * s') := fun k α β => by
    rw [h.du k α β, h'.du k α β]
    exact ⟨fun a c hc => a c ((hm c).mpr hc), fun a c hc => a c ((hm c).mp hc)⟩
  have hp : p = p' := by
    have a := fun k => du k 1 0
    simp at a
    exact Int.dvd_antisymm h.p0 h'.p0 ((a p).mp (Int.dvd_refl _)) ((a p').mpr (Int.dvd_refl _))
  subst hp
  by_cases h0 : p = 0
  · have hq := h.pq h0
    have hq' := h'.pq h0
    subst h0 hq hq'
    have a := fun k => du k 0 1
    simp at a
    have hs : s = s' := Int.dvd_antisymm h.s0 h'.s0 ((a s).mp (Int.dvd_refl _)) ((a s').mpr (Int.dvd_refl _))
    subst hs
    exact ⟨rfl, rfl, rfl⟩
  · have hs : s = s' := by
      have a := (du (p * s) (-q) p).mp ⟨by rw [show -q * p + p * q = 0 by grind]; exact Int.dvd_zero _, Int.dvd_refl _⟩
      have b := (du (p * s') (-q') p).mpr ⟨by rw [show -q' * p + p * q' = 0 by grind]; exact Int.dvd_zero _, Int.dvd_refl _⟩
      exact Int.dvd_antisymm h.s0 h'.s0 (Int.dvd_of_mul_dvd_mul_left h0 a.2) (Int.dvd_of_mul_dvd_mul_left h0 b.2)
    subst hs
    have a := ((du (p * s) (-q) p).mp ⟨by rw [show -q * p + p * q = 0 by grind]; exact Int.dvd_zero _, Int.dvd_refl _⟩).1
    rw [show -q * p + p * q' = p * (q' - q) by grind] at a
    have b := Int.dvd_of_mul_dvd_mul_left h0 a
    refine ⟨rfl, rfl, ?_⟩
    unfold basis
    rw [if_neg h0, if_neg h0]
    by_cases hs : s = 0
    · subst hs
      have := Int.zero_dvd.mp b
      rw [if_pos rfl, if_pos rfl, show q' = q by omega]
    · rw [if_neg hs, if_neg hs]
      have : q % s = q' % s := by
        have := Int.emod_emod_of_dvd
        exact (Int.emod_eq_emod_iff_emod_sub_eq_zero.mpr (Int.emod_eq_zero_of_dvd (by
          obtain ⟨t, ht⟩ := b
          exact ⟨-t, by grind⟩)))
      rw [this]
theorem Stt.rev {p q s : Int} {L L' : List (Int × Int)} (h : Stt p q s L) (hm : ∀ c, c ∈ L ↔ c ∈ L') : Stt p q s L' :=
  ⟨h.p0, h.p1, h.pq, h.s0, fun k α β => by rw [h.du]; exact ⟨fun a c hc => a c ((hm c).mpr hc), fun a c hc => a c ((hm c).mp hc)⟩⟩
theorem area_eq {p q s A : Int} {L : List (Int × Int)} (h : Stt p q s L) (hA : 0 ≤ A) (d : ∀ k, k ∣ A ↔ ∀ c ∈ L, ∀ d ∈ L, k ∣ mi c d) : A = p * s := by
  have hps : 0 ≤ p * s := Int.mul_nonneg h.p0 h.s0
  refine Int.dvd_antisymm hA hps ?_ ?_
  · rw [← area_dvd h]; exact (d A).mp (Int.dvd_refl _)
  · rw [d, area_dvd h]; exact Int.dvd_refl _
theorem size_is {p q s S : Int} {L : List (Int × Int)} (h : Stt p q s L) (d : ∀ k, k ∣ S ↔ ∀ c ∈ L, k ∣ c.1 ∧ k ∣ c.2) (k : Int) : k ∣ S ↔ k ∣ p ∧ k ∣ q ∧ k ∣ s := by rw [d, size_dvd h]
theorem size_pos {p q s S : Int} {L : List (Int × Int)} (h : Stt p q s L) (hS : 0 ≤ S) (d : ∀ k, k ∣ S ↔ k ∣ p ∧ k ∣ q ∧ k ∣ s) : 0 < S ↔ ¬ (p = 0 ∧ s = 0) := by
  constructor
  · rintro a ⟨b, c⟩
    have hq := h.pq b
    subst b c hq
    have := Int.zero_dvd.mp ((d 0).mpr ⟨Int.dvd_refl _, Int.dvd_refl _, Int.dvd_refl _⟩)
    omega
  · intro a
    by_cases z : S = 0
    · subst z
      obtain ⟨b, _, c⟩ := (d 0).mp (Int.dvd_refl _)
      exact absurd ⟨Int.zero_dvd.mp b, Int.zero_dvd.mp c⟩ a
    · omega
theorem gd_uniq {A B g g' : Int} (h : Gd A B g) (h0 : 0 ≤ g') (h' : ∀ k, k ∣ g' ↔ k ∣ A ∧ k ∣ B) : g = g' :=
  Int.dvd_antisymm h.n h0 ((h' g).mpr ((h.d g).mp (Int.dvd_refl _))) ((h.d g').mpr ((h' g').mp (Int.dvd_refl _)))
end Gk15
namespace Gk15
open PySem DL
/-- in the lattice whose least form is (p, q), (0, s) -/
def In (p q s : Int) (v : Int × Int) : Prop := p ∣ v.1 ∧ s ∣ v.2 - v.1 / p * q
theorem in_gen {p q s : Int} (h : p = 0 → q = 0) : In p q s (p, q) := by
  refine ⟨Int.dvd_refl _, ?_⟩
  by_cases hp : p = 0
  · simp [hp, h hp]
  · simp [Int.ediv_self hp]
theorem in_step (p q s : Int) : In p q s (0, s) := ⟨Int.dvd_zero _, by simp⟩
theorem in_mul {p q s m y : Int} (h : p ≠ 0) : In p q s (p * m, y) ↔ s ∣ y - m * q := by
  unfold In
  simp [Int.mul_ediv_cancel_left m h]
theorem in_q {p q q' s m y : Int} (h : s ∣ q - q') : s ∣ y - m * q ↔ s ∣ y - m * q' := by
  obtain ⟨t, ht⟩ := h
  constructor
  · rintro ⟨u, hu⟩; exact ⟨u + m * t, by grind⟩
  · rintro ⟨u, hu⟩; exact ⟨u - m * t, by grind⟩
theorem mod_sub (q s : Int) : s ∣ q - q % s := ⟨q / s, by have := Int.emod_add_mul_ediv q s; omega⟩
theorem in_uniq {p q s p' q' s' : Int} (h0 : 0 ≤ p) (h0' : 0 ≤ p') (hq : p = 0 → q = 0) (hq' : p' = 0 → q' = 0) (hs : 0 ≤ s) (hs' : 0 ≤ s') (h : ∀ v, In p q s v ↔ In p' q' s' v) : p = p' ∧ s = s' ∧ (p ≠ 0 → q % s = q' % s) := by
  have a1 := (h _).mp (in_gen (s := s) hq)
  have a2 := (h _).mpr (in_gen (s := s') hq')
  have b1 := (h _).mp (in_step p q s)
  have b2 := (h _).mpr (in_step p' q' s')
  have hp : p = p' := Int.dvd_antisymm h0 h0' a2.1 a1.1
  have hss : s = s' := by
    have c1 : s' ∣ s := by simpa using b1.2
    have c2 : s ∣ s' := by simpa using b2.2
    exact Int.dvd_antisymm hs hs' c2 c1
  refine ⟨hp, hss, fun hn => ?_⟩
  subst hp hss
  have c : s ∣ q - q' := by
    have := a1.2
    rwa [Int.ediv_self hn, Int.one_mul] at this
  exact Int.emod_eq_emod_iff_emod_sub_eq_zero.mpr (Int.emod_eq_zero_of_dvd c)
/-- multiples of both -/
theorem lcm_dvd {a c g : Int} (h : Gd a c g) (hg : 0 < g) {X : Int} : a * c / g ∣ X ↔ a ∣ X ∧ c ∣ X := by
  obtain ⟨⟨a', ha⟩, ⟨c', hc⟩⟩ := (h.d g).mp (Int.dvd_refl _)
  have e : a * c / g = a * c' := by
    rw [hc, show a * (g * c') = g * (a * c') by grind, Int.mul_ediv_cancel_left _ (by omega)]
  have e2 : a * c' = c * a' := by rw [ha, hc]; grind
  rw [e]
  constructor
  · intro hx
    exact ⟨Int.dvd_trans ⟨c', rfl⟩ hx, Int.dvd_trans ⟨a', e2⟩ hx⟩
  · rintro ⟨⟨m, hm⟩, ⟨n, hn⟩⟩
    have h1 : a * c ∣ X * g := h.mul.mpr ⟨⟨n, by rw [hn]; grind⟩, ⟨m, by rw [hm]; grind⟩⟩
    rw [hc, show a * (g * c') = a * c' * g by grind] at h1
    exact Int.dvd_of_mul_dvd_mul_right (by omega) h1
theorem quot_dvd {n l t : Int} (h : Gd n l t) (ht : 0 < t) {w : Int} : n ∣ w * l ↔ n / t ∣ w := by
  obtain ⟨n', hn⟩ := ((h.d t).mp (Int.dvd_refl _)).1
  have e : n / t = n' := by rw [hn, Int.mul_ediv_cancel_left _ (by omega)]
  rw [e]
  have h1 := h.mul (β := w) (k := n)
  constructor
  · intro a
    have := h1.mpr ⟨Int.dvd_mul_left .., a⟩
    rw [hn, show t * n' = n' * t by grind] at this
    exact Int.dvd_of_mul_dvd_mul_right (by omega) this
  · intro a
    refine (h1.mp ?_).2
    rw [hn, show t * n' = n' * t by grind]
    exact Int.mul_dvd_mul_right _ a
theorem dvd_mulmod {n w l : Int} : n ∣ w * (l % n) ↔ n ∣ w * l := by
  have e := Int.emod_add_mul_ediv l n
  constructor
  · rintro ⟨u, hu⟩; exact ⟨u + w * (l / n), by grind⟩
  · rintro ⟨u, hu⟩; exact ⟨u - w * (l / n), by grind⟩
/-- the lattice in both, each of two shifts -/
theorem both_core {a b d c e f W c' a' k u1 u2 st high up r : Int} (ha : 0 < a) (hc : 0 < c) (hk : 0 < k) (hW : W = a * c') (hW2 : W = c * a') (hW0 : 0 < W)
    (lcm : ∀ X, W ∣ X ↔ a ∣ X ∧ c ∣ X) (hst : st = u1 * d + u2 * f) (sd : st ∣ d) (sf : st ∣ f) (hq : ∀ w, st ∣ w * (c' * b - a' * e) ↔ k ∣ w) (hh : ∀ Y, high ∣ Y ↔ d ∣ Y ∧ f ∣ Y) (hup : up = c' * k * b + r * u1 * d) (hr : a' * k * e - c' * k * b = st * r) (v : Int × Int) : In (W * k) (up % high) high v ↔ In a b d v ∧ In c e f v := by
  obtain ⟨X, Y⟩ := v
  have hWk : W * k ≠ 0 := Int.ne_of_gt (Int.mul_pos hW0 hk)
  have hu2 : up = a' * k * e - r * u2 * f := by grind
  have key : ∀ T, (high ∣ Y - T * (up % high)) ↔ d ∣ Y - (c' * k * T) * b ∧ f ∣ Y - (a' * k * T) * e := fun T => by
    rw [← in_q (p := 0) (mod_sub up high), hh]
    have i1 : d ∣ up - c' * k * b := ⟨r * u1, by grind⟩
    have i2 : f ∣ up - a' * k * e := ⟨- (r * u2), by grind⟩
    rw [in_q (p := 0) i1, in_q (p := 0) i2]
    rw [show T * (c' * k * b) = c' * k * T * b by grind, show T * (a' * k * e) = a' * k * T * e by grind]
  constructor
  · intro h
    obtain ⟨T, hT⟩ := h.1
    simp only at hT
    subst hT
    rw [in_mul hWk] at h
    obtain ⟨h1, h2⟩ := (key T).mp h
    rw [show W * k * T = a * (c' * k * T) by rw [hW]; grind]
    refine ⟨(in_mul (by omega)).mpr h1, ?_⟩
    rw [show a * (c' * k * T) = c * (a' * k * T) by grind]
    exact (in_mul (by omega)).mpr h2
  · rintro ⟨h1, h2⟩
    obtain ⟨w, hw⟩ := (lcm X).mpr ⟨h1.1, h2.1⟩
    have x1 : X = a * (c' * w) := by rw [hw, hW]; grind
    have x2 : X = c * (a' * w) := by rw [hw, hW2]; grind
    have h1' : d ∣ Y - c' * w * b := by rw [x1] at h1; exact (in_mul (by omega)).mp h1
    have h2' : f ∣ Y - a' * w * e := by rw [x2] at h2; exact (in_mul (by omega)).mp h2
    obtain ⟨i, hi⟩ := Int.dvd_trans sd h1'
    obtain ⟨j, hj⟩ := Int.dvd_trans sf h2'
    obtain ⟨T, hT⟩ := (hq w).mp ⟨j - i, by grind⟩
    subst hT
    rw [show X = W * k * T by rw [hw]; grind, in_mul hWk]
    exact (key T).mpr ⟨by rw [show c' * k * T = c' * (k * T) by grind]; exact h1', by rw [show a' * k * T = a' * (k * T) by grind]; exact h2'⟩
/-- on a line -/
def Ln (a b : Int) (v : Int × Int) : Prop := ∃ t, v = (t * a, t * b)
theorem in_line {p q : Int} (hp : p ≠ 0) (v : Int × Int) : In p q 0 v ↔ Ln p q v := by
  obtain ⟨x, y⟩ := v
  constructor
  · rintro ⟨⟨m, hm⟩, h⟩
    simp only at hm h
    subst hm
    rw [Int.mul_ediv_cancel_left _ hp, Int.zero_dvd] at h
    exact ⟨m, by rw [Prod.mk.injEq]; exact ⟨by grind, by omega⟩⟩
  · rintro ⟨t, ht⟩
    rw [ht, show t * p = p * t by grind]
    exact (in_mul hp).mpr ⟨0, by grind⟩
theorem in_up {s : Int} (v : Int × Int) : In 0 0 s v ↔ Ln 0 s v := by
  obtain ⟨x, y⟩ := v
  constructor
  · rintro ⟨h, m, hm⟩
    have h := Int.zero_dvd.mp h
    simp only at h hm
    subst h
    exact ⟨m, by rw [Prod.mk.injEq]; exact ⟨by grind, by grind⟩⟩
  · rintro ⟨t, ht⟩
    rw [ht]
    exact ⟨by simp, ⟨t, by simp; grind⟩⟩
theorem in_nil (v : Int × Int) : In 0 0 0 v ↔ v = (0, 0) := by
  obtain ⟨x, y⟩ := v
  rw [in_up]
  constructor
  · rintro ⟨t, ht⟩; rw [ht]; simp
  · intro h; exact ⟨0, by rw [h]; simp⟩
/-- two lines apart -/
theorem lines_apart {a b c d : Int} (h : a * d ≠ b * c) (v : Int × Int) : (Ln a b v ∧ Ln c d v) ↔ v = (0, 0) := by
  constructor
  · rintro ⟨⟨t, ht⟩, ⟨u, hu⟩⟩
    rw [ht, Prod.mk.injEq] at hu
    have : t * (a * d - b * c) = 0 := by grind
    rcases Int.mul_eq_zero.mp this with h0 | h0
    · rw [ht, h0]; simp
    · omega
  · intro h0
    exact ⟨⟨0, by rw [h0]; simp⟩, ⟨0, by rw [h0]; simp⟩⟩
/-- two lines of one direction -/
theorem lines_same {a b c d m : Int} (h : a * d = b * c) (hc : a ≠ 0 ∧ c ≠ 0) (hm : ∀ t, c ∣ t * a ↔ m ∣ t) (v : Int × Int) : (Ln a b v ∧ Ln c d v) ↔ Ln (a * m) (b * m) v := by
  constructor
  · rintro ⟨⟨t, ht⟩, ⟨u, hu⟩⟩
    rw [ht, Prod.mk.injEq] at hu
    obtain ⟨w, hw⟩ := (hm t).mp ⟨u, by grind⟩
    exact ⟨w, by rw [ht, hw, Prod.mk.injEq]; exact ⟨by grind, by grind⟩⟩
  · rintro ⟨w, hw⟩
    obtain ⟨u, hu⟩ := (hm (m * w)).mpr ⟨w, rfl⟩
    refine ⟨⟨m * w, by rw [hw, Prod.mk.injEq]; exact ⟨by grind, by grind⟩⟩, ⟨u, ?_⟩⟩
    rw [hw, Prod.mk.injEq]
    refine ⟨by grind, ?_⟩
    have : c * (w * (b * m)) = c * (u * d) := by grind
    exact Int.eq_of_mul_eq_mul_left hc.2 this
theorem lines_up {b d m : Int} (hm : ∀ t, d ∣ t * b ↔ m ∣ t) (v : Int × Int) : (Ln 0 b v ∧ Ln 0 d v) ↔ Ln (0 * m) (b * m) v := by
  constructor
  · rintro ⟨⟨t, ht⟩, ⟨u, hu⟩⟩
    rw [ht, Prod.mk.injEq] at hu
    obtain ⟨w, hw⟩ := (hm t).mp ⟨u, by grind⟩
    exact ⟨w, by rw [ht, hw, Prod.mk.injEq]; exact ⟨by grind, by grind⟩⟩
  · rintro ⟨w, hw⟩
    obtain ⟨u, hu⟩ := (hm (m * w)).mpr ⟨w, rfl⟩
    refine ⟨⟨m * w, by rw [hw, Prod.mk.injEq]; exact ⟨by grind, by grind⟩⟩, ⟨u, ?_⟩⟩
    rw [hw, Prod.mk.injEq]
    exact ⟨by grind, by grind⟩
/-- a line and a lattice of two shifts -/
theorem line_two {a b c e f n k : Int} (hc : 0 < c) (hn : ∀ t, c ∣ t * a ↔ n ∣ t) (hk : ∀ w, f ∣ w * (n * b - n * a / c * e) ↔ k ∣ w) (v : Int × Int) : (Ln a b v ∧ In c e f v) ↔ Ln (a * (n * k)) (b * (n * k)) v := by
  obtain ⟨z, hz⟩ := (hn n).mpr (Int.dvd_refl _)
  have hz2 : n * a / c = z := by rw [hz, Int.mul_ediv_cancel_left _ (by omega)]
  rw [hz2] at hk
  constructor
  · rintro ⟨⟨t, rfl⟩, h⟩
    obtain ⟨w, hw⟩ := (hn t).mp h.1
    subst hw
    rw [show n * w * a = c * (z * w) by grind, in_mul (by omega)] at h
    obtain ⟨i, hi⟩ := (hk w).mp (by rw [show w * (n * b - z * e) = n * w * b - z * w * e by grind]; exact h)
    exact ⟨i, by rw [hi, Prod.mk.injEq]; exact ⟨by grind, by grind⟩⟩
  · rintro ⟨i, hi⟩
    refine ⟨⟨n * k * i, by rw [hi, Prod.mk.injEq]; exact ⟨by grind, by grind⟩⟩, ?_⟩
    have := (hk (k * i)).mpr ⟨i, rfl⟩
    rw [hi, show i * (a * (n * k)) = c * (z * (k * i)) by grind, in_mul (by omega)]
    rw [show k * i * (n * b - z * e) = i * (b * (n * k)) - z * (k * i) * e by grind] at this
    exact this
theorem gd_mod {a c g : Int} (h : Gd c (a % c) g) : Gd c a g := ⟨h.n, fun k => by rw [h.d k, dvd_mod]; exact and_comm⟩
end Gk15
namespace Gk15
open PySem DL
/-- a form within bounds -/
structure Fm (B p q s : Int) : Prop where
  p0 : 0 ≤ p
  p1 : p ≤ B
  pq : p = 0 → q = 0
  s0 : 0 ≤ s
  s1 : s ≤ B
  q0 : -B ≤ q
  q1 : q ≤ B
  n : p ≠ 0 → s ≠ 0 → q % s = q
theorem Fm.mono {B C p q s : Int} (h : Fm B p q s) (l : B ≤ C) : Fm C p q s := by
  obtain ⟨h0, h1, h2, h3, h4, h5, h6, h7⟩ := h
  exact ⟨h0, by omega, h2, h3, by omega, by omega, by omega, h7⟩
theorem basis_2 {p q s : Int} (hp : p ≠ 0) (hs : s ≠ 0) (h : q % s = q) : basis p q s = [(p, q), (0, s)] := by
  unfold basis
  rw [if_neg hp, if_neg hs, h]
theorem basis_1 {p q : Int} (hp : p ≠ 0) : basis p q 0 = [(p, q)] := by
  unfold basis
  rw [if_neg hp, if_pos rfl]
theorem basis_u {s : Int} (hs : 0 < s) : basis 0 0 s = [(0, s)] := by
  unfold basis
  rw [if_pos rfl, if_pos hs]
theorem basis_0 : basis 0 0 0 = [] := rfl
/-- the four kinds of forms -/
theorem Fm.cases {B p q s : Int} (h : Fm B p q s) : (p = 0 ∧ q = 0 ∧ s = 0) ∨ (p = 0 ∧ q = 0 ∧ 0 < s) ∨ (0 < p ∧ s = 0) ∨ (0 < p ∧ 0 < s ∧ q % s = q) := by
  obtain ⟨h0, h1, h2, h3, h4, h5, h6, h7⟩ := h
  by_cases hp : p = 0
  · have := h2 hp
    by_cases hs : s = 0
    · exact .inl ⟨hp, this, hs⟩
    · exact .inr (.inl ⟨hp, this, by omega⟩)
  · by_cases hs : s = 0
    · exact .inr (.inr (.inl ⟨by omega, hs⟩))
    · exact .inr (.inr (.inr ⟨by omega, by omega, h7 hp hs⟩))
theorem in_red {B p q s : Int} (h : Fm B p q s) (v : Int × Int) : (basis p q s).foldl rd v = (0, 0) ↔ In p q s v := by
  obtain ⟨x, y⟩ := v
  rcases h.cases with ⟨rfl, rfl, rfl⟩ | ⟨rfl, rfl, hs⟩ | ⟨hp, rfl⟩ | ⟨hp, hs, hn⟩
  · rw [basis_0, in_nil]; exact Iff.rfl
  · rw [basis_u hs]
    show ((x - y / s * 0, y - y / s * s) : Int × Int) = (0, 0) ↔ _
    rw [Prod.mk.injEq]
    unfold In
    constructor
    · rintro ⟨a, b⟩
      refine ⟨by rw [Int.zero_dvd]; simp; omega, ⟨y / s, ?_⟩⟩
      simp; grind
    · rintro ⟨a, m, b⟩
      rw [Int.zero_dvd] at a
      simp only at a b
      have b' : y = s * m := by grind
      subst b'
      rw [Int.mul_ediv_cancel_left _ (by omega)]
      exact ⟨by omega, by grind⟩
  · rw [basis_1 (by omega)]
    have e : rd (x, y) (p, q) = (x - x / p * p, y - x / p * q) := by
      unfold rd rm
      rw [if_pos hp]
    show rd (x, y) (p, q) = (0, 0) ↔ _
    rw [e, Prod.mk.injEq]
    unfold In
    constructor
    · rintro ⟨a, b⟩
      exact ⟨⟨x / p, by simp; grind⟩, by simp only; rw [b]; exact Int.dvd_refl _⟩
    · rintro ⟨⟨m, a⟩, b⟩
      simp only at a b
      subst a
      rw [Int.zero_dvd] at b
      exact ⟨by rw [Int.mul_ediv_cancel_left _ (by omega)]; grind, b⟩
  · rw [basis_2 (by omega) (by omega) hn]
    have e : rd (x, y) (p, q) = (x - x / p * p, y - x / p * q) := by
      unfold rd rm
      rw [if_pos hp]
    show rd (rd (x, y) (p, q)) (0, s) = (0, 0) ↔ _
    rw [e]
    show (((x - x / p * p) - (y - x / p * q) / s * 0, (y - x / p * q) - (y - x / p * q) / s * s) : Int × Int) = (0, 0) ↔ _
    rw [Prod.mk.injEq]
    unfold In
    constructor
    · rintro ⟨a, b⟩
      exact ⟨⟨x / p, by simp; grind⟩, ⟨(y - x / p * q) / s, by simp; grind⟩⟩
    · rintro ⟨⟨m, a⟩, ⟨n, b⟩⟩
      simp only at a b
      rw [b, Int.mul_ediv_cancel_left _ (by omega)]
      subst a
      rw [Int.mul_ediv_cancel_left _ (by omega)]
      exact ⟨by grind, by grind⟩
theorem ediv_bd {x p B : Int} (hp : 0 < p) (h : -B ≤ x ∧ x ≤ B) (hB : 0 ≤ B) : -B ≤ x / p ∧ x / p ≤ B := by
  constructor
  · have : -B ≤ x / p := by
      rw [Int.le_ediv_iff_mul_le hp]
      have := mul_le' (x := B) (z := p) hB hp
      have e : -B * p = -(B * p) := Int.neg_mul ..
      omega
    exact this
  · have : x / p < B + 1 := by
      rw [Int.ediv_lt_iff_lt_mul hp]
      have := mul_le' (x := B + 1) (z := p) (by omega) hp
      omega
    omega
theorem mul_bd {a b A B : Int} (ha : -A ≤ a ∧ a ≤ A) (hb : -B ≤ b ∧ b ≤ B) : -(A * B) ≤ a * b ∧ a * b ≤ A * B := by
  have h1 : (a * b).natAbs ≤ A.natAbs * B.natAbs := by
    rw [Int.natAbs_mul]; exact Nat.mul_le_mul (by omega) (by omega)
  have h2 : (A * B).natAbs = A.natAbs * B.natAbs := Int.natAbs_mul ..
  have h3 : 0 ≤ A * B := Int.mul_nonneg (by omega) (by omega)
  omega
theorem rdok_fm {p q s : Int} (h : Fm 100000 p q s) {v : Int × Int} (hv : (-100000 ≤ v.1 ∧ v.1 ≤ 100000) ∧ (-100000 ≤ v.2 ∧ v.2 ≤ 100000)) : RdOk (basis p q s) v := by
  obtain ⟨x, y⟩ := v
  obtain ⟨hx, hy⟩ := hv
  simp only at hx hy
  rcases h.cases with ⟨rfl, rfl, rfl⟩ | ⟨rfl, rfl, hs⟩ | ⟨hp, rfl⟩ | ⟨hp, hs, hn⟩
  · exact trivial
  · rw [basis_u hs]
    have := ediv_bd hs hy (by omega)
    refine ⟨⟨hs, divOk_of hs (by have := h.s1; simp only; omega)⟩, ?_, trivial⟩
    show (y / s).natAbs < _
    omega
  · rw [basis_1 (by omega)]
    have := ediv_bd hp hx (by omega)
    refine ⟨?_, ?_, trivial⟩
    · rw [if_pos hp]; exact ⟨hp, divOk_of hp (by have := h.p1; omega)⟩
    · unfold rm; rw [if_pos hp]; simp only; omega
  · rw [basis_2 (by omega) (by omega) hn]
    have d1 := ediv_bd hp hx (by omega)
    have m1 := mul_bd d1 ⟨h.q0, h.q1⟩
    have y1 : -20000000000 ≤ y - x / p * q ∧ y - x / p * q ≤ 20000000000 := by omega
    have d2 := ediv_bd hs y1 (by omega)
    refine ⟨?_, ?_, ⟨hs, divOk_of hs (by have := h.s1; simp only; omega)⟩, ?_, trivial⟩
    · rw [if_pos hp]; exact ⟨hp, divOk_of hp (by have := h.p1; omega)⟩
    · unfold rm; rw [if_pos hp]; simp only; omega
    · have e : rd (x, y) (p, q) = (x - x / p * p, y - x / p * q) := by
        unfold rd rm
        rw [if_pos hp]
      rw [e]
      show ((y - x / p * q) / s).natAbs < _
      omega
theorem eq_z (v : Int × Int) : gEq (cD v) (T2 0 0) = some (.bl (decide (v = (0, 0)))) := eqe_P2.gEq (by decide) _ (0, 0)
theorem ne_z (v : Int × Int) : gNe (cD v) (T2 0 0) = some (.bl (!decide (v = (0, 0)))) := eqe_P2.gNe (by decide) _ (0, 0)
/-- what the law reduces -/
theorem w_red {p q s : Int} (h : Fm 100000 p q s) {x y : Int} (hv : (-100000 ≤ x ∧ x ≤ 100000) ∧ (-100000 ≤ y ∧ y ≤ 100000)) : ∃ d, m__law_reduced [bD p q s, T2 x y] = .ok d [] ∧ gEq d (T2 0 0) = some (.bl (@decide (In p q s (x, y)) (Classical.propDecidable _))) ∧ gNe d (T2 0 0) = some (.bl (!@decide (In p q s (x, y)) (Classical.propDecidable _))) := by
  refine ⟨_, w_reduced (B := basis p q s) (v := (x, y)) (rdok_fm h hv) (basis_len p q s), ?_, ?_⟩
  · rw [eq_z]; congr 2; exact decide_eq_decide.mpr (in_red h _)
  · rw [ne_z]; congr 3; exact decide_eq_decide.mpr (in_red h _)
end Gk15
namespace Gk15
open PySem DL
theorem gd_pos {A B g : Int} (h : Gd A B g) (hA : 0 < A) : 0 < g := by
  have := ((h.d g).mp (Int.dvd_refl _)).1
  rcases Int.lt_or_eq_of_le h.n with h1 | h1
  · exact h1
  · rw [← h1] at this
    have := Int.zero_dvd.mp this
    omega
theorem dvd_le {a b : Int} (hb : 0 < b) (h : a ∣ b) : a ≤ b := Int.le_of_dvd hb h
theorem bD_2 {p q s : Int} (hp : p ≠ 0) (hs : s ≠ 0) (h : q % s = q) : bD p q s = .tup [T2 p q, T2 0 s] := by
  unfold bD
  rw [basis_2 hp hs h]; rfl
theorem bD_1 {p q : Int} (hp : p ≠ 0) : bD p q 0 = .tup [T2 p q] := by
  unfold bD
  rw [basis_1 hp]; rfl
theorem bD_u {s : Int} (hs : 0 < s) : bD 0 0 s = .tup [T2 0 s] := by
  unfold bD
  rw [basis_u hs]; rfl
theorem bD_0 : bD 0 0 0 = .tup [] := rfl
/-- of two lattices of two shifts each -/
theorem both_22 {a b d c e f : Int} (h1 : Fm 32 a b d) (h2 : Fm 32 c e f) (ha : 0 < a) (hd : 0 < d) (hc : 0 < c) (hf : 0 < f) :
    ∃ p q s, m_both_of [bD a b d, bD c e f] = .ok (bD p q s) [] ∧ Fm 100000 p q s ∧ (∀ v, In p q s v ↔ In a b d v ∧ In c e f v) ∧ 0 < p ∧ 0 < s ∧
      ∃ G, p * s * G = a * d * (c * f) ∧ 0 ≤ G ∧ ∀ j, j ∣ G ↔ j ∣ a * d ∧ j ∣ a * f ∧ j ∣ c * d ∧ j ∣ c * f ∧ j ∣ a * e - b * c := by
  have b1 := h1.p1
  have b2 := h1.s1
  have b3 := h2.p1
  have b4 := h2.s1
  have qb0 := h1.q0
  have qb1 := h1.q1
  have qe0 := h2.q0
  have qe1 := h2.q1
  obtain ⟨st, u1, u2, e1, st0, sd, sf, hst, u1a, u1b, u2a, u2b⟩ := v_common hd hf (by omega) (by omega)
  obtain ⟨g, e2, hg⟩ := v_divisor (A := a) (B := c) (by omega) (by omega)
  have g0 := gd_pos hg ha
  obtain ⟨⟨a', ga⟩, ⟨c', gc⟩⟩ := (hg.d g).mp (Int.dvd_refl _)
  have gle : g ≤ a := dvd_le ha ⟨a', ga⟩
  have hWe : a * c / g = a * c' := by
    rw [gc, show a * (g * c') = g * (a * c') by grind, Int.mul_ediv_cancel_left _ (by omega)]
  obtain ⟨W, hW⟩ : ∃ W, a * c / g = W := ⟨_, rfl⟩
  have lcm : ∀ X, W ∣ X ↔ a ∣ X ∧ c ∣ X := fun X => by rw [← hW]; exact lcm_dvd hg g0
  have hW1 : W = a * c' := hW.symm.trans hWe
  have hW2 : W = c * a' := by rw [hW1]; conv => lhs; rw [ga]
                              conv => rhs; rw [gc]
                              grind
  have c0 : 0 < c' := Int.pos_of_mul_pos_left (a := c') (b := g) (by rw [Int.mul_comm, ← gc]; exact hc) (by omega)
  have a0 : 0 < a' := Int.pos_of_mul_pos_left (a := a') (b := g) (by rw [Int.mul_comm, ← ga]; exact ha) (by omega)
  have c1 : c' ≤ c := by rw [gc, Int.mul_comm]; exact mul_le' (by omega) g0
  have a1 : a' ≤ a := by rw [ga, Int.mul_comm]; exact mul_le' (by omega) g0
  have W0 : 0 < W := by rw [hW1]; exact Int.mul_pos ha c0
  have W1 : W ≤ 1024 := by
    rw [hW1]
    have := mul_bd (a := a) (b := c') (A := 32) (B := 32) (by omega) (by omega)
    omega
  have wa : W / a = c' := by rw [hW1, Int.mul_ediv_cancel_left _ (by omega)]
  have wc : W / c = a' := by rw [hW2, Int.mul_ediv_cancel_left _ (by omega)]
  obtain ⟨L, hL⟩ : ∃ L, (W / a * b - W / c * e) % st = L := ⟨_, rfl⟩
  have L0 : 0 ≤ L := by rw [← hL]; exact Int.emod_nonneg _ (by omega)
  obtain ⟨t, e3, ht⟩ := v_divisor (A := st) (B := L) (by omega) L0
  have t0 := gd_pos ht st0
  have tle : t ≤ st := dvd_le st0 ((ht.d t).mp (Int.dvd_refl _)).1
  have sle : st ≤ d := dvd_le hd sd
  obtain ⟨k, hk⟩ : ∃ k, st / t = k := ⟨_, rfl⟩
  have kt : st = t * k := by
    obtain ⟨m, hm⟩ := ((ht.d t).mp (Int.dvd_refl _)).1
    rw [← hk]
    conv => rhs; rw [hm]
    rw [Int.mul_ediv_cancel_left _ (by omega)]; exact hm
  have k0 : 0 < k := Int.pos_of_mul_pos_left (a := k) (b := t) (by rw [Int.mul_comm, ← kt]; exact st0) (by omega)
  have k1 : k ≤ st := by
    have := mul_le' (x := k) (z := t) (by omega) t0
    rw [Int.mul_comm, ← kt] at this; exact this
  have hq : ∀ w, st ∣ w * (c' * b - a' * e) ↔ k ∣ w := fun w => by
    rw [← hk, ← quot_dvd ht t0, ← hL, wa, wc, dvd_mulmod]
  obtain ⟨high, hh⟩ : ∃ high, d * f / st = high := ⟨_, rfl⟩
  have gst : Gd d f st := ⟨by omega, fun j => ⟨fun x => ⟨Int.dvd_trans x sd, Int.dvd_trans x sf⟩, fun x => by rw [hst]; exact dvd_lin x.1 x.2⟩⟩
  have hhd : ∀ Y, high ∣ Y ↔ d ∣ Y ∧ f ∣ Y := fun Y => by rw [← hh]; exact lcm_dvd gst st0
  have hsh : st * high = d * f := by
    obtain ⟨m, hm⟩ := sd
    have : d * f = st * (m * f) := by rw [hm]; grind
    rw [← hh, this, Int.mul_ediv_cancel_left _ (by omega)]
  have high0 : 0 < high := Int.pos_of_mul_pos_left (a := high) (b := st) (by rw [Int.mul_comm, hsh]; exact Int.mul_pos hd hf) (by omega)
  have high1 : high ≤ 1024 := by
    have h3 := mul_bd (a := d) (b := f) (A := 32) (B := 32) (by omega) (by omega)
    have := mul_le' (x := high) (z := st) (by omega) st0
    rw [Int.mul_comm, hsh] at this
    omega
  have xa : W * k / a = c' * k := by rw [hW1, show a * c' * k = a * (c' * k) by grind, Int.mul_ediv_cancel_left _ (by omega)]
  have xc : W * k / c = a' * k := by rw [hW2, show c * a' * k = c * (a' * k) by grind, Int.mul_ediv_cancel_left _ (by omega)]
  obtain ⟨r, hr⟩ : st ∣ a' * k * e - c' * k * b := by
    have := (hq k).mpr (Int.dvd_refl _)
    obtain ⟨m, hm⟩ := this
    exact ⟨-m, by grind⟩
  have rq : (a' * k * e - c' * k * b) / st = r := by rw [hr, Int.mul_ediv_cancel_left _ (by omega)]
  have x0 : 0 < W * k := Int.mul_pos W0 k0
  have x1 : W * k ≤ 32768 := by
    have := mul_bd (a := W) (b := k) (A := 1024) (B := 32) (by omega) (by omega)
    omega
  have um := Int.emod_nonneg (c' * k * b + r * u1 * d) (b := high) (by omega)
  have ul := Int.emod_lt_of_pos (c' * k * b + r * u1 * d) high0
  refine ⟨W * k, (c' * k * b + r * u1 * d) % high, high, ?_, ⟨by omega, by omega, by omega, by omega, by omega, by omega, by omega, fun _ _ => Int.emod_emod_of_dvd _ (Int.dvd_refl _)⟩, ?_, x0, high0, g * t, ?_, Int.mul_nonneg (by omega) (by omega), ?_⟩
  · rw [bD_2 (by omega) (by omega) (h1.n (by omega) (by omega)), bD_2 (by omega) (by omega) (h2.n (by omega) (by omega)), bD_2 (by omega) (by omega) (Int.emod_emod_of_dvd _ (Int.dvd_refl _))]
    have m1 : mulOk a c = true := mulOk_l (by omega)
    have m2 : mulOk d f = true := mulOk_l (by omega)
    have m3 : ∀ i, mulOk i b = true := fun i => mulOk_r (by omega)
    have m4 : ∀ i, mulOk i e = true := fun i => mulOk_r (by omega)
    have m5 : ∀ i, mulOk W i = true := fun i => mulOk_l (by omega)
    have m6 : ∀ i, mulOk i u1 = true := fun i => mulOk_r (by omega)
    have m7 : ∀ i, mulOk i d = true := fun i => mulOk_r (by omega)
    have o1 := divOk_of ha (by omega)
    have o2 := divOk_of hc (by omega)
    have o3 := divOk_of g0 (by omega)
    have o4 := divOk_of st0 (by omega)
    have o5 := divOk_of t0 (by omega)
    rw [wa, wc] at hL
    have n1 : st ≠ 0 := by omega
    have n2 : high ≠ 0 := by omega
    simp [m_both_of, b_both_of, t8_both_of, t7_both_of, t6_both_of, t5_both_of, t4_both_of, t3_both_of, t2_both_of, t1_both_of, t0_both_of, e1, e2, e3, m1, m2, m3, m4, m5, m6, m7, o1, o2, o3, o4, o5, n1, n2, fdiv_pos ha, fdiv_pos hc, fdiv_pos g0, fdiv_pos st0, fdiv_pos t0, fmod_pos st0, fmod_pos high0, hW, hh, hk, wa, wc, hL, xa, xc, rq]
  · exact fun v => both_core ha hc k0 hW1 hW2 W0 lcm hst sd sf hq hhd rfl hr v
  · have q1 : g * W = a * c := by rw [hW1]; conv => rhs; rw [gc]
                                  grind
    have : W * k * high * (g * t) = (g * W) * ((t * k) * high) := by grind
    rw [this, q1, ← kt, hsh]; grind
  · intro j
    have w1 : j ∣ g * t ↔ j ∣ g * st ∧ j ∣ g * L := ht.mul
    have w2 : j ∣ g * st ↔ j ∣ g * d ∧ j ∣ g * f := gst.mul
    have w3 : ∀ y, j ∣ g * y ↔ j ∣ a * y ∧ j ∣ c * y := fun y => by
      have := hg.mul (β := y) (k := j)
      rw [Int.mul_comm y g, Int.mul_comm y a, Int.mul_comm y c] at this
      exact this
    have w4 : j ∣ g * st → (j ∣ g * L ↔ j ∣ a * e - b * c) := fun hs => by
      rw [← hL, wa, wc]
      obtain ⟨m, hm⟩ := hs
      have hz := Int.emod_add_mul_ediv (c' * b - a' * e) st
      have z1 : g * (c' * b - a' * e) = c * b - a * e := by
        conv => rhs; rw [gc, ga]
        grind
      constructor
      · rintro ⟨n, hn⟩
        exact ⟨-n - m * ((c' * b - a' * e) / st), by grind⟩
      · rintro ⟨n, hn⟩
        exact ⟨-n - m * ((c' * b - a' * e) / st), by grind⟩
    constructor
    · intro h
      obtain ⟨x, y⟩ := w1.mp h
      obtain ⟨z1, z2⟩ := w2.mp x
      obtain ⟨y1, y2⟩ := (w3 d).mp z1
      obtain ⟨y3, y4⟩ := (w3 f).mp z2
      exact ⟨y1, y3, y2, y4, (w4 x).mp y⟩
    · rintro ⟨y1, y3, y2, y4, y⟩
      have x := w2.mpr ⟨(w3 d).mpr ⟨y1, y2⟩, (w3 f).mpr ⟨y3, y4⟩⟩
      exact w1.mpr ⟨x, (w4 x).mpr y⟩
end Gk15
namespace Gk15
open PySem DL
theorem ln_neg {x y : Int} (v : Int × Int) : Ln (-x) (-y) v ↔ Ln x y v := by
  constructor
  · rintro ⟨t, ht⟩; exact ⟨-t, by rw [ht]; simp [Int.neg_mul, Int.mul_neg]⟩
  · rintro ⟨t, ht⟩; exact ⟨-t, by rw [ht]; simp [Int.neg_mul, Int.mul_neg]⟩
theorem ln_up {y : Int} (v : Int × Int) : Ln 0 (if y < 0 then -y else y) v ↔ Ln 0 y v := by
  by_cases h : y < 0
  · rw [if_pos h, ← ln_neg (x := 0) (y := y)]; simp
  · rw [if_neg h]
/-- the least form of one shift -/
theorem v_one {B x y : Int} (hB : B ≤ 1000000000000) (hx : -B ≤ x ∧ x ≤ B) (hy : -B ≤ y ∧ y ≤ B) : ∃ p q s, m_least_form [.lst [T2 x y]] = .ok (bD p q s) [] ∧ Fm B p q s ∧ ∀ v, In p q s v ↔ Ln x y v := by
  obtain ⟨p, q, s, e, st⟩ := w_form (z := .lst [T2 x y]) (L := [(x, y)]) rfl (fun c hc => by rw [List.mem_singleton] at hc; subst hc; exact ⟨by simp only; omega, by simp only; omega, by simp only; omega, by simp only; omega⟩) (by simp)
  have fin : ∀ {p' q' s' : Int}, Stt p' q' s' [(x, y)] → m_least_form [.lst [T2 x y]] = .ok (bD p' q' s') [] := fun {p' q' s'} st' => by
    obtain ⟨_, _, h⟩ := uniq st st' (fun _ => Iff.rfl)
    rw [e, h]
  rcases Int.lt_trichotomy x 0 with h | h | h
  · refine ⟨-x, -y, 0, fin ⟨by omega, by omega, by omega, by omega, fun k α β => ?_⟩, ⟨by omega, by omega, by omega, by omega, by omega, by omega, by omega, by omega⟩, fun v => by rw [in_line (by omega), ln_neg]⟩
    simp only [List.mem_singleton, forall_eq, Int.mul_zero]
    rw [show α * -x + β * -y = -(α * x + β * y) by grind, Int.dvd_neg]
    exact ⟨fun a => a.1, fun a => ⟨a, Int.dvd_zero _⟩⟩
  · subst h
    refine ⟨0, 0, if y < 0 then -y else y, fin ⟨by omega, by omega, by omega, by omega, fun k α β => ?_⟩, ⟨by omega, by omega, by omega, by omega, by omega, by omega, by omega, by omega⟩, fun v => by rw [in_up, ln_up]⟩
    simp only [List.mem_singleton, forall_eq, Int.mul_zero, Int.zero_add]
    have e3 : k ∣ β * (if y < 0 then -y else y) ↔ k ∣ β * y := by
      split
      · rw [Int.mul_neg]; exact Int.dvd_neg
      · exact Iff.rfl
    rw [e3]
    exact ⟨fun a => a.2, fun a => ⟨Int.dvd_zero _, a⟩⟩
  · refine ⟨x, y, 0, fin ⟨by omega, by omega, by omega, by omega, fun k α β => ?_⟩, ⟨by omega, by omega, by omega, by omega, by omega, by omega, by omega, by omega⟩, fun v => in_line (by omega) v⟩
    simp only [List.mem_singleton, forall_eq, Int.mul_zero]
    exact ⟨fun a => a.1, fun a => ⟨a, Int.dvd_zero _⟩⟩
theorem in_zero (p q s : Int) : In p q s (0, 0) := ⟨Int.dvd_zero _, by simp⟩
/-- a row alone -/
structure Rw (A B : Int) : Prop where
  a : (0 < A ∧ A ≤ 32) ∨ (A = 0 ∧ 0 < B)
  b : -32 ≤ B ∧ B ≤ 32
theorem row_eq {A B : Int} : gEq (.tup [T2 A B]) (.tup []) = some (.bl false) := by
  have := nil_tq (L := [(A, B)])
  simpa using this
theorem gd_swap {a c g : Int} (h : Gd a c g) : Gd c a g := ⟨h.n, fun k => by rw [h.d k]; exact and_comm⟩
/-- two rows -/
theorem line_row {A B C E : Int} (h1 : Rw A B) (h2 : Rw C E) {y0 y1 y8 y9 y10 y11 y12 y13 y14 : Option D} :
    ∃ p q s, (∃ ρ, t3_line_both [y0, y1, some (.tup [T2 A B]), some (.tup [T2 C E]), some (.int A), some (.int B), some (.int C), some (.int E), y8, y9, y10, y11, y12, y13, y14] = .ok (.rt (bD p q s)) ρ) ∧ Fm 100000 p q s ∧ ∀ v, In p q s v ↔ Ln A B v ∧ Ln C E v := by
  obtain ⟨a1, b1⟩ := h1
  obtain ⟨a2, b2⟩ := h2
  have m1 : mulOk A E = true := mulOk_l (by omega)
  have m2 : mulOk B C = true := mulOk_l (by omega)
  have m3 : ∀ i, mulOk A i = true := fun i => mulOk_l (by omega)
  have m4 : ∀ i, mulOk B i = true := fun i => mulOk_l (by omega)
  by_cases hx : A * E = B * C
  · by_cases hA : A = 0
    · have hB : 0 < B := by omega
      have hC : C = 0 := by
        rw [hA, Int.zero_mul] at hx
        rcases Int.mul_eq_zero.mp hx.symm with h | h <;> omega
      have hE : 0 < E := by omega
      subst hA hC
      obtain ⟨g, e, hg⟩ := v_divisor (A := B) (B := E) (by omega) (by omega)
      have g0 := gd_pos hg hB
      have gl := dvd_le hB ((hg.d g).mp (Int.dvd_refl _)).1
      obtain ⟨m, hm⟩ : ∃ m, E / g = m := ⟨_, rfl⟩
      have mb := ediv_bd (x := E) (B := 32) g0 (by omega) (by omega)
      rw [hm] at mb
      have hk : ∀ t, E ∣ t * B ↔ m ∣ t := fun t => by rw [← hm]; exact quot_dvd (gd_swap hg) g0
      have bd := mul_bd (a := B) (b := m) (A := 32) (B := 32) b1 mb
      obtain ⟨p, q, s, e2, f2, i2⟩ := v_one (B := 1024) (x := 0) (y := B * m) (by omega) (by omega) (by omega)
      refine ⟨p, q, s, ?_, f2.mono (by omega), fun v => by rw [i2, lines_up hk]; simp⟩
      have o1 := divOk_of g0 (by omega)
      have n1 : ¬ B < 0 := by omega
      have n2 : ¬ E < 0 := by omega
      simp [t3_line_both, t2_line_both, t1_line_both, t0_line_both, m1, m2, m3, m4, n1, n2, e, o1, fdiv_pos g0, hm, e2]
    · have hA0 : 0 < A := by omega
      have hC : 0 < C := by
        rcases a2 with h | h
        · omega
        · have : A * E = 0 := by rw [hx, h.1]; simp
          rcases Int.mul_eq_zero.mp this with h | h <;> omega
      obtain ⟨g, e, hg⟩ := v_divisor (A := A) (B := C) (by omega) (by omega)
      have g0 := gd_pos hg hA0
      have gl := dvd_le hA0 ((hg.d g).mp (Int.dvd_refl _)).1
      obtain ⟨m, hm⟩ : ∃ m, C / g = m := ⟨_, rfl⟩
      have mb := ediv_bd (x := C) (B := 32) g0 (by omega) (by omega)
      rw [hm] at mb
      have hk : ∀ t, C ∣ t * A ↔ m ∣ t := fun t => by rw [← hm]; exact quot_dvd (gd_swap hg) g0
      have bd := mul_bd (a := B) (b := m) (A := 32) (B := 32) b1 mb
      have bd2 := mul_bd (a := A) (b := m) (A := 32) (B := 32) (by omega) mb
      obtain ⟨p, q, s, e2, f2, i2⟩ := v_one (B := 1024) (x := A * m) (y := B * m) (by omega) (by omega) (by omega)
      refine ⟨p, q, s, ?_, f2.mono (by omega), fun v => by rw [i2, lines_same hx ⟨hA, by omega⟩ hk]⟩
      have o1 := divOk_of g0 (by omega)
      have n1 : ¬ A < 0 := by omega
      have n2 : ¬ C < 0 := by omega
      simp [t3_line_both, t2_line_both, t1_line_both, t0_line_both, m1, m2, m3, m4, n1, n2, e, o1, fdiv_pos g0, hm, e2, hx, hA]
  · refine ⟨0, 0, 0, ?_, ⟨by omega, by omega, by omega, by omega, by omega, by omega, by omega, by omega⟩, fun v => by rw [in_nil, lines_apart hx]⟩
    simp [t3_line_both, m1, m2, hx, bD_0]
/-- a row and a form of two -/
theorem line_form {A B c e f : Int} (h1 : Rw A B) (h2 : Fm 32 c e f) (hc : 0 < c) (hf : 0 < f) {y0 y1 y6 y7 y8 y9 y10 y11 y12 y13 y14 : Option D} :
    ∃ p q s, (∃ ρ, t8_line_both [y0, y1, some (.tup [T2 A B]), some (.tup [T2 c e, T2 0 f]), some (.int A), some (.int B), y6, y7, y8, y9, y10, y11, y12, y13, y14] = .ok (.rt (bD p q s)) ρ) ∧ Fm 100000 p q s ∧ ∀ v, In p q s v ↔ Ln A B v ∧ In c e f v := by
  obtain ⟨a1, b1⟩ := h1
  have c1 := h2.p1
  have f1 := h2.s1
  have q0 := h2.q0
  have q1 := h2.q1
  have r0 := Int.emod_nonneg A (b := c) (by omega)
  obtain ⟨g, e1, hg⟩ := v_divisor (A := c) (B := A % c) (by omega) r0
  have g0 := gd_pos hg hc
  have gl := dvd_le hc ((hg.d g).mp (Int.dvd_refl _)).1
  obtain ⟨n, hn⟩ : ∃ n, c / g = n := ⟨_, rfl⟩
  have nb := ediv_bd (x := c) (B := 32) g0 (by omega) (by omega)
  rw [hn] at nb
  have hk : ∀ t, c ∣ t * A ↔ n ∣ t := fun t => by rw [← hn]; exact quot_dvd (gd_mod hg) g0
  obtain ⟨l, hl⟩ : ∃ l, (n * B - n * A / c * e) % f = l := ⟨_, rfl⟩
  have l0 : 0 ≤ l := by rw [← hl]; exact Int.emod_nonneg _ (by omega)
  obtain ⟨t, e2, ht⟩ := v_divisor (A := f) (B := l) (by omega) l0
  have t0 := gd_pos ht hf
  have tl := dvd_le hf ((ht.d t).mp (Int.dvd_refl _)).1
  obtain ⟨k, hkk⟩ : ∃ k, f / t = k := ⟨_, rfl⟩
  have kb := ediv_bd (x := f) (B := 32) t0 (by omega) (by omega)
  rw [hkk] at kb
  have hw : ∀ w, f ∣ w * (n * B - n * A / c * e) ↔ k ∣ w := fun w => by rw [← hkk, ← quot_dvd ht t0, ← hl, dvd_mulmod]
  have nk := mul_bd nb kb
  have bd := mul_bd (a := B) (b := n * k) (A := 32) (B := 1024) b1 (by omega)
  have bd2 := mul_bd (a := A) (b := n * k) (A := 32) (B := 1024) (by omega) (by omega)
  obtain ⟨p, q, s, e3, f3, i3⟩ := v_one (B := 32768) (x := A * (n * k)) (y := B * (n * k)) (by omega) (by omega) (by omega)
  refine ⟨p, q, s, ?_, f3.mono (by omega), fun v => by rw [i3, line_two hc hk hw]⟩
  have o1 := divOk_of hc (by omega)
  have o2 := divOk_of g0 (by omega)
  have o3 := divOk_of t0 (by omega)
  have n1 : c ≠ 0 := by omega
  have n2 : f ≠ 0 := by omega
  have m1 : ∀ i, mulOk n i = true := fun i => mulOk_l (by omega)
  have m3 : ∀ i, mulOk A i = true := fun i => mulOk_l (by omega)
  have m4 : ∀ i, mulOk B i = true := fun i => mulOk_l (by omega)
  have m5 : ∀ i, mulOk i e = true := fun i => mulOk_r (by omega)
  simp [t8_line_both, t7_line_both, t6_line_both, t5_line_both, t4_line_both, fmod_pos hc, fmod_pos hf, n1, n2, m1, m3, m4, m5, o1, o2, o3, fdiv_pos hc, fdiv_pos g0, fdiv_pos t0, e1, hn, hl, e2, hkk, e3]
end Gk15
namespace Gk15
open PySem DL
theorem row_of {a b d : Int} (h : Fm 32 a b d) (ha : a = 0 ∨ d = 0) : (a = 0 ∧ b = 0 ∧ d = 0) ∨ ∃ A B, Rw A B ∧ basis a b d = [(A, B)] ∧ ∀ v, In a b d v ↔ Ln A B v := by
  have p1 := h.p1
  have s1 := h.s1
  have q0 := h.q0
  have q1 := h.q1
  rcases h.cases with h | ⟨rfl, rfl, hs⟩ | ⟨hp, rfl⟩ | ⟨hp, hs, hn⟩
  · exact .inl h
  · exact .inr ⟨0, d, ⟨by omega, by omega⟩, basis_u hs, in_up⟩
  · exact .inr ⟨a, b, ⟨by omega, by omega⟩, basis_1 (by omega), in_line (by omega)⟩
  · omega
theorem z_in {c e f : Int} (v : Int × Int) : In 0 0 0 v ↔ In 0 0 0 v ∧ In c e f v := by
  constructor
  · intro h
    rw [in_nil] at h
    subst h
    exact ⟨in_zero _ _ _, in_zero _ _ _⟩
  · exact fun h => h.1
theorem v_few {a b d c e f : Int} (h1 : Fm 32 a b d) (h2 : Fm 32 c e f) (ha : a = 0 ∨ d = 0) (hl : (basis a b d).length ≤ (basis c e f).length) {y0 y1 : Option D} :
    ∃ p q s, (∃ ρ, t11_line_both [y0, y1, some (bD a b d), some (bD c e f), none, none, none, none, none, none, none, none, none, none, none] = .ok (.rt (bD p q s)) ρ) ∧ Fm 100000 p q s ∧ ∀ v, In p q s v ↔ In a b d v ∧ In c e f v := by
  rcases row_of h1 ha with ⟨rfl, rfl, rfl⟩ | ⟨A, B, hr, hb, hi⟩
  · have eq : gEq (.tup []) (.tup []) = some (.bl true) := by
      have := nil_tq (L := [])
      simpa using this
    refine ⟨0, 0, 0, ?_, ⟨by omega, by omega, by omega, by omega, by omega, by omega, by omega, by omega⟩, z_in⟩
    rw [bD_0]
    simp [t11_line_both, eq]
  · have re := row_eq (A := A) (B := B)
    have eb : bD a b d = .tup [T2 A B] := by unfold bD; rw [hb]; rfl
    rw [hb] at hl
    rcases h2.cases with ⟨rfl, rfl, rfl⟩ | ⟨rfl, rfl, hs⟩ | ⟨hp, rfl⟩ | ⟨hp, hs, hn⟩
    · simp [basis_0] at hl
    · obtain ⟨p, q, s, ⟨ρ, er⟩, fm, ii⟩ := line_row hr (C := 0) (E := f) ⟨by omega, by have := h2.s1; omega⟩ (y0 := y0) (y1 := y1) (y8 := none) (y9 := none) (y10 := none) (y11 := none) (y12 := none) (y13 := none) (y14 := none)
      refine ⟨p, q, s, ?_, fm, fun v => by rw [ii, hi, in_up]⟩
      rw [eb, bD_u hs]
      simp [t11_line_both, t10_line_both, t9_line_both, re, er]
    · obtain ⟨p, q, s, ⟨ρ, er⟩, fm, ii⟩ := line_row hr (C := c) (E := e) ⟨by have := h2.p1; omega, ⟨h2.q0, h2.q1⟩⟩ (y0 := y0) (y1 := y1) (y8 := none) (y9 := none) (y10 := none) (y11 := none) (y12 := none) (y13 := none) (y14 := none)
      refine ⟨p, q, s, ?_, fm, fun v => by rw [ii, hi, in_line (by omega)]⟩
      rw [eb, bD_1 (by omega)]
      simp [t11_line_both, t10_line_both, t9_line_both, re, er]
    · obtain ⟨p, q, s, ⟨ρ, er⟩, fm, ii⟩ := line_form hr h2 hp hs (y0 := y0) (y1 := y1) (y6 := none) (y7 := none) (y8 := none) (y9 := none) (y10 := none) (y11 := none) (y12 := none) (y13 := none) (y14 := none)
      refine ⟨p, q, s, ?_, fm, fun v => by rw [ii, hi]⟩
      rw [eb, bD_2 (by omega) (by omega) hn]
      simp [t11_line_both, t10_line_both, t9_line_both, re, er]
theorem len_two {p q s : Int} : (basis p q s).length = if p = 0 then (if 0 < s then 1 else 0) else if s = 0 then 1 else 2 := by
  unfold basis
  split
  · split <;> rfl
  · split <;> rfl
theorem v_line {a b d c e f : Int} (h1 : Fm 32 a b d) (h2 : Fm 32 c e f) (hn : ¬ (0 < a ∧ 0 < d ∧ 0 < c ∧ 0 < f)) :
    ∃ p q s, m_line_both [bD a b d, bD c e f] = .ok (bD p q s) [] ∧ Fm 100000 p q s ∧ ∀ v, In p q s v ↔ In a b d v ∧ In c e f v := by
  have i1 := h1.p0
  have i2 := h1.s0
  have i3 := h2.p0
  have i4 := h2.s0
  by_cases hl : (basis a b d).length ≤ (basis c e f).length
  · have ha : a = 0 ∨ d = 0 := by
      rw [len_two, len_two] at hl
      by_cases h0 : a = 0
      · exact .inl h0
      · by_cases h1 : d = 0
        · exact .inr h1
        · rw [if_neg h0, if_neg h1] at hl
          by_cases hc : c = 0
          · rw [if_pos hc] at hl; split at hl <;> omega
          · rw [if_neg hc] at hl; split at hl <;> omega
    obtain ⟨p, q, s, ⟨ρ, er⟩, fm, ii⟩ := v_few h1 h2 ha hl (y0 := some (bD a b d)) (y1 := some (bD c e f))
    refine ⟨p, q, s, ?_, fm, ii⟩
    have hl' : ((basis a b d).length : Int) ≤ ((basis c e f).length : Int) := by omega
    simp [m_line_both, b_line_both, hl, hl', er]
  · have hl2 : (basis c e f).length ≤ (basis a b d).length := by omega
    have ha : c = 0 ∨ f = 0 := by
      rw [len_two, len_two] at hl
      by_cases h0 : c = 0
      · exact .inl h0
      · by_cases h1 : f = 0
        · exact .inr h1
        · rw [if_neg h0, if_neg h1] at hl
          exfalso
          apply hl
          split
          · split <;> omega
          · split <;> omega
    obtain ⟨p, q, s, ⟨ρ, er⟩, fm, ii⟩ := v_few h2 h1 ha hl2 (y0 := some (bD a b d)) (y1 := some (bD c e f))
    refine ⟨p, q, s, ?_, fm, fun v => by rw [ii]; exact and_comm⟩
    have hl' : ¬ ((basis a b d).length : Int) ≤ ((basis c e f).length : Int) := by omega
    simp [m_line_both, b_line_both, hl, hl', er]
/-- what is in both -/
theorem v_both {a b d c e f : Int} (h1 : Fm 32 a b d) (h2 : Fm 32 c e f) :
    ∃ p q s, m_both_of [bD a b d, bD c e f] = .ok (bD p q s) [] ∧ Fm 100000 p q s ∧ (∀ v, In p q s v ↔ In a b d v ∧ In c e f v) ∧ (0 < a ∧ 0 < d ∧ 0 < c ∧ 0 < f → 0 < p ∧ 0 < s ∧
      ∃ G, p * s * G = a * d * (c * f) ∧ 0 ≤ G ∧ ∀ j, j ∣ G ↔ j ∣ a * d ∧ j ∣ a * f ∧ j ∣ c * d ∧ j ∣ c * f ∧ j ∣ a * e - b * c) := by
  by_cases hn : 0 < a ∧ 0 < d ∧ 0 < c ∧ 0 < f
  · obtain ⟨p, q, s, e, fm, ii, hp, hs, G⟩ := both_22 h1 h2 hn.1 hn.2.1 hn.2.2.1 hn.2.2.2
    exact ⟨p, q, s, e, fm, ii, fun _ => ⟨hp, hs, G⟩⟩
  · obtain ⟨p, q, s, er, fm, ii⟩ := v_line h1 h2 hn
    refine ⟨p, q, s, ?_, fm, ii, fun h => absurd h hn⟩
    have i1 := h1.p0
    have i2 := h1.s0
    have i3 := h2.p0
    have i4 := h2.s0
    have l : (basis a b d).length < 2 ∨ (basis c e f).length < 2 := by
      rw [len_two, len_two]
      by_cases a0 : a = 0
      · left; rw [if_pos a0]; split <;> omega
      · by_cases d0 : d = 0
        · left; rw [if_neg a0, if_pos d0]; omega
        · right
          by_cases c0 : c = 0
          · rw [if_pos c0]; split <;> omega
          · rw [if_neg c0]
            by_cases f0 : f = 0
            · rw [if_pos f0]; omega
            · omega
    by_cases l1 : (basis a b d).length < 2
    · have l1' : ((basis a b d).length : Int) < 2 := by omega
      simp [m_both_of, b_both_of, l1, l1', er]
    · have l1' : ¬ ((basis a b d).length : Int) < 2 := by omega
      have l2 : (basis c e f).length < 2 := by omega
      have l2' : ((basis c e f).length : Int) < 2 := by omega
      simp [m_both_of, b_both_of, l1, l1', l2, l2', er]
end Gk15
namespace Gk15
open PySem DL
def Sm4 (c : Int × Int) : Prop := (-4 ≤ c.1 ∧ c.1 ≤ 4) ∧ (-4 ≤ c.2 ∧ c.2 ≤ 4)
theorem Sm4.nr {c : Int × Int} (h : Sm4 c) : Nr c := by
  obtain ⟨⟨a, b⟩, c, d⟩ := h
  exact ⟨by omega, by omega, by omega, by omega⟩
theorem nat_le {a b : Int} (h : a ∣ b) (hb : b ≠ 0) : a.natAbs ≤ b.natAbs := Nat.le_of_dvd (by omega) (Int.natAbs_dvd_natAbs.mpr h)
theorem has_x {p q s : Int} {L : List (Int × Int)} (st : Stt p q s L) (hp : p ≠ 0) : ∃ c ∈ L, c.1 ≠ 0 := Classical.byContradiction fun n => by
  have : (0 : Int) ∣ 1 * p + 0 * q := ((st.du 0 1 0).mpr fun c hc => by
    have : c.1 = 0 := Classical.byContradiction fun m => n ⟨c, hc, m⟩
    simp [this]).1
  have := Int.zero_dvd.mp this
  omega
theorem p_dvd {p q s : Int} {L : List (Int × Int)} (st : Stt p q s L) {c : Int × Int} (hc : c ∈ L) : p ∣ c.1 := by
  have := ((st.du p 1 0).mp ⟨by simp, by simp⟩) c hc
  simpa using this
theorem Stt.norm {p q s : Int} {L : List (Int × Int)} (st : Stt p q s L) (hp : p ≠ 0) : Stt p (q % s) s L := ⟨st.p0, st.p1, fun h => absurd h hp, st.s0, fun k α β => by
  rw [← st.du]
  have e := Int.emod_add_mul_ediv q s
  constructor
  · rintro ⟨⟨m, hm⟩, ⟨n, hn⟩⟩
    exact ⟨⟨m + n * (q / s), by grind⟩, ⟨n, hn⟩⟩
  · rintro ⟨⟨m, hm⟩, ⟨n, hn⟩⟩
    exact ⟨⟨m - n * (q / s), by grind⟩, ⟨n, hn⟩⟩⟩
theorem basis_norm {p q s : Int} (hp : p ≠ 0) (hs : s ≠ 0) : basis p (q % s) s = basis p q s := by
  unfold basis
  rw [if_neg hp, if_neg hs, if_neg hp, if_neg hs, Int.emod_emod_of_dvd _ (Int.dvd_refl _)]
theorem stt_small {p q s : Int} {L : List (Int × Int)} (st : Stt p q s L) (hL : ∀ c ∈ L, Sm4 c) : p ≤ 4 ∧ s ≤ 32 ∧ (s = 0 → q.natAbs ≤ 4) := by
  have p0 := st.p0
  have s0 := st.s0
  have hp4 : p ≤ 4 := by
    by_cases hp : p = 0
    · omega
    · obtain ⟨c, hc, h0⟩ := has_x st hp
      have := nat_le (p_dvd st hc) h0
      have := (hL c hc).1
      omega
  refine ⟨hp4, ?_, ?_⟩
  · by_cases hs : s = 0
    · omega
    by_cases hp : p = 0
    · have hq := st.pq hp
      subst hp hq
      have : ¬ ∀ c ∈ L, (0 : Int) ∣ c.2 := fun a => hs (Int.zero_dvd.mp (by
        have := ((st.du 0 0 1).mpr fun c hc => by simpa using a c hc).2
        simpa using this))
      obtain ⟨c, hc, hz⟩ : ∃ c ∈ L, ¬ (0 : Int) ∣ c.2 := Classical.byContradiction fun n => this fun c hc => Classical.byContradiction fun m => n ⟨c, hc, m⟩
      have f3 : s ∣ c.2 := by
        have := ((st.du s 0 1).mp ⟨by simp, by simp⟩) _ hc
        simpa using this
      have h0 : c.2 ≠ 0 := fun e => hz (e ▸ Int.dvd_refl _)
      have := nat_le f3 h0
      have := (hL c hc).2
      omega
    · have hps : p * s ≠ 0 := Int.mul_ne_zero hp hs
      obtain ⟨c, hc, d, hd, hz⟩ : ∃ c ∈ L, ∃ d ∈ L, mi c d ≠ 0 := Classical.byContradiction fun n => hps (Int.zero_dvd.mp ((area_dvd st 0).mp fun c hc d hd => Classical.byContradiction fun m => n ⟨c, hc, d, hd, fun e => m (e ▸ Int.dvd_refl _)⟩))
      have f := nat_le ((area_dvd st (p * s)).mpr (Int.dvd_refl _) c hc d hd) hz
      obtain ⟨a1, a2⟩ := hL c hc
      obtain ⟨a3, a4⟩ := hL d hd
      have m1 := mul_bd a1 a4
      have m2 := mul_bd a2 a3
      have := mul_le' (x := s) (z := p) s0 (by omega)
      rw [Int.mul_comm] at this
      unfold mi at f
      omega
  · intro hs
    subst hs
    by_cases hp : p = 0
    · rw [st.pq hp]; decide
    · obtain ⟨c, hc, h0⟩ := has_x st hp
      have e := Int.zero_dvd.mp (((st.du 0 (-q) p).mp ⟨by rw [show -q * p + p * q = 0 by grind]; exact Int.dvd_zero _, by simp⟩) c hc)
      obtain ⟨m, hm⟩ := p_dvd st hc
      have e2 : p * (q * m) = p * c.2 := by grind
      have e3 := Int.eq_of_mul_eq_mul_left hp e2
      have hm0 : m ≠ 0 := fun h => h0 (by rw [hm, h]; simp)
      have e4 : q.natAbs * m.natAbs = c.2.natAbs := by rw [← Int.natAbs_mul, e3]
      have e5 : q.natAbs * 1 ≤ q.natAbs * m.natAbs := Nat.mul_le_mul_left _ (by omega)
      have := (hL c hc).2
      omega
/-- the form of a lot of small shifts -/
theorem v_small {L : List (Int × Int)} (hL : ∀ c ∈ L, Sm4 c) (hl : L.length ≤ 100) : ∃ p q s, m_least_form [.lst (L.map cD)] = .ok (bD p q s) [] ∧ Stt p q s L ∧ Fm 32 p q s := by
  obtain ⟨p, q, s, e, st⟩ := w_form (z := .lst (L.map cD)) (L := L) rfl (fun c hc => (hL c hc).nr) (by omega)
  obtain ⟨h1, h2, h3⟩ := stt_small st hL
  by_cases h : p ≠ 0 ∧ s ≠ 0
  · have l := Int.emod_lt_of_pos q (b := s) (by have := st.s0; omega)
    have l0 := Int.emod_nonneg q (b := s) h.2
    refine ⟨p, q % s, s, by rw [e]; unfold bD; rw [basis_norm h.1 h.2], st.norm h.1, ⟨st.p0, by omega, fun x => absurd x h.1, st.s0, h2, by omega, by omega, fun _ _ => Int.emod_emod_of_dvd _ (Int.dvd_refl _)⟩⟩
  · refine ⟨p, q, s, e, st, ⟨st.p0, by omega, st.pq, st.s0, h2, ?_, ?_, fun a b => absurd ⟨a, b⟩ h⟩⟩
    all_goals
      by_cases hp : p = 0
      · have := st.pq hp; omega
      · have : s = 0 := Classical.byContradiction fun x => h ⟨hp, x⟩
        have := h3 this
        omega
theorem stt_basis {B p q s : Int} (h : Fm B p q s) (hB : B ≤ 1000000000000) : Stt p q s (basis p q s) := by
  have p1 := h.p1
  refine ⟨h.p0, by omega, h.pq, h.s0, fun k α β => ?_⟩
  rcases h.cases with ⟨rfl, rfl, rfl⟩ | ⟨rfl, rfl, hs⟩ | ⟨hp, rfl⟩ | ⟨hp, hs, hn⟩
  · rw [basis_0]; simp
  · rw [basis_u hs]; simp
  · rw [basis_1 (by omega)]; simp
  · rw [basis_2 (by omega) (by omega) hn]; simp
theorem basis_nr {B p q s : Int} (h : Fm B p q s) (hB : B ≤ 1000000000000) : ∀ c ∈ basis p q s, Nr c := by
  have p0 := h.p0
  have s0 := h.s0
  have p1 := h.p1
  have s1 := h.s1
  have q0 := h.q0
  have q1 := h.q1
  intro c hc
  rcases h.cases with ⟨rfl, rfl, rfl⟩ | ⟨rfl, rfl, hs⟩ | ⟨hp, rfl⟩ | ⟨hp, hs, hn⟩
  · rw [basis_0] at hc; simp at hc
  · rw [basis_u hs] at hc; simp at hc; subst hc; exact ⟨by simp only; omega, by simp only; omega, by simp only; omega, by simp only; omega⟩
  · rw [basis_1 (by omega)] at hc; simp at hc; subst hc; exact ⟨by simp only; omega, by simp only; omega, by simp only; omega, by simp only; omega⟩
  · rw [basis_2 (by omega) (by omega) hn] at hc
    simp at hc
    rcases hc with rfl | rfl <;> exact ⟨by simp only; omega, by simp only; omega, by simp only; omega, by simp only; omega⟩
/-- a form is its own form -/
theorem v_own {B p q s : Int} (h : Fm B p q s) (hB : B ≤ 1000000000000) : m_least_form [.lst ((basis p q s).map cD)] = .ok (bD p q s) [] := by
  obtain ⟨p', q', s', e, st⟩ := w_form (z := .lst ((basis p q s).map cD)) (L := basis p q s) rfl (basis_nr h hB) (by have := basis_len p q s; omega)
  obtain ⟨_, _, u⟩ := uniq st (stt_basis h hB) (fun _ => Iff.rfl)
  rw [e, u]
theorem fm_uniq {B C p q s p' q' s' : Int} (h : Fm B p q s) (h' : Fm C p' q' s') (i : ∀ v, In p q s v ↔ In p' q' s' v) : p = p' ∧ q = q' ∧ s = s' := by
  obtain ⟨hp, hs, hq⟩ := in_uniq h.p0 h'.p0 h.pq h'.pq h.s0 h'.s0 i
  subst hp hs
  refine ⟨rfl, ?_, rfl⟩
  by_cases h0 : p = 0
  · rw [h.pq h0, h'.pq h0]
  · have := hq h0
    by_cases h1 : s = 0
    · subst h1; simpa using this
    · rw [h.n h0 h1, h'.n h0 h1] at this; exact this
/-- the form of two forms together -/
theorem v_joint {a b d c e f : Int} (h1 : Fm 32 a b d) (h2 : Fm 32 c e f) (ha : 0 < a) (hd : 0 < d) (hc : 0 < c) (hf : 0 < f) {G T : Int} (hG : T * G = a * d * (c * f)) (G0 : 0 ≤ G)
    (g : ∀ j, j ∣ G ↔ j ∣ a * d ∧ j ∣ a * f ∧ j ∣ c * d ∧ j ∣ c * f ∧ j ∣ a * e - b * c) :
    ∃ P Q S, m_lattice [.lst ((basis a b d).map cD ++ (basis c e f).map cD)] = .ok (.tup [T2 P Q, T2 0 S]) [] ∧ T * P * S = a * d * (c * f) ∧ 0 < P ∧ 0 < S ∧ P ≤ 2000000 := by
  have n1 := basis_nr h1 (by omega)
  have n2 := basis_nr h2 (by omega)
  have hn : ∀ x ∈ basis a b d ++ basis c e f, Nr x := fun x hx => (List.mem_append.mp hx).elim (n1 x) (n2 x)
  have l1 := basis_len a b d
  have l2 := basis_len c e f
  obtain ⟨P, Q, S, er, st⟩ := w_form (z := .lst ((basis a b d ++ basis c e f).map cD)) (L := basis a b d ++ basis c e f) rfl hn (by rw [List.length_append]; omega)
  have hl := v_lattice (z := .lst ((basis a b d ++ basis c e f).map cD)) (.inl rfl) hn (by rw [List.length_append]; omega) er
  have P0 := st.p0
  have S0 := st.s0
  have eq : G = P * S := by
    refine Int.dvd_antisymm G0 (Int.mul_nonneg P0 S0) ?_ ?_
    · rw [← area_dvd st]
      rw [basis_2 (by omega) (by omega) (h1.n (by omega) (by omega)), basis_2 (by omega) (by omega) (h2.n (by omega) (by omega))]
      obtain ⟨⟨x1, y1⟩, ⟨x2, y2⟩, ⟨x3, y3⟩, ⟨x4, y4⟩, ⟨x5, y5⟩⟩ := (g G).mp (Int.dvd_refl _)
      intro u hu v hv
      simp only [List.cons_append, List.nil_append, List.mem_cons, List.not_mem_nil, or_false] at hu hv
      rcases hu with rfl | rfl | rfl | rfl <;> rcases hv with rfl | rfl | rfl | rfl <;> simp only [mi]
      · exact ⟨0, by grind⟩
      · exact ⟨x1, by grind⟩
      · exact ⟨x5, by grind⟩
      · exact ⟨x2, by grind⟩
      · exact ⟨-x1, by grind⟩
      · exact ⟨0, by grind⟩
      · exact ⟨-x3, by grind⟩
      · exact ⟨0, by grind⟩
      · exact ⟨-x5, by grind⟩
      · exact ⟨x3, by grind⟩
      · exact ⟨0, by grind⟩
      · exact ⟨x4, by grind⟩
      · exact ⟨-x2, by grind⟩
      · exact ⟨0, by grind⟩
      · exact ⟨-x4, by grind⟩
      · exact ⟨0, by grind⟩
    · have ar := (area_dvd st (P * S)).mpr (Int.dvd_refl _)
      rw [basis_2 (by omega) (by omega) (h1.n (by omega) (by omega)), basis_2 (by omega) (by omega) (h2.n (by omega) (by omega))] at ar
      rw [g]
      have a1 := ar (a, b) (by simp) (0, d) (by simp)
      have a2 := ar (a, b) (by simp) (0, f) (by simp)
      have a3 := ar (c, e) (by simp) (0, d) (by simp)
      have a4 := ar (c, e) (by simp) (0, f) (by simp)
      have a5 := ar (a, b) (by simp) (c, e) (by simp)
      simp only [mi] at a1 a2 a3 a4 a5
      refine ⟨?_, ?_, ?_, ?_, a5⟩
      · simpa using a1
      · simpa using a2
      · simpa using a3
      · simpa using a4
  subst eq
  have pos : 0 < a * d * (c * f) := Int.mul_pos (Int.mul_pos ha hd) (Int.mul_pos hc hf)
  have ne : P * S ≠ 0 := fun h => by rw [h, Int.mul_zero] at hG; omega
  have P1 : P ≠ 0 := fun h => ne (by rw [h]; simp)
  have S1 : S ≠ 0 := fun h => ne (by rw [h]; simp)
  have pd : P ∣ a := by
    have := p_dvd st (c := (a, b)) (List.mem_append_left _ (by rw [basis_2 (by omega) (by omega) (h1.n (by omega) (by omega))]; simp))
    exact this
  have pl := dvd_le ha pd
  have p1 := h1.p1
  refine ⟨P, Q % S, S, ?_, by rw [← hG]; grind, by omega, by omega, by omega⟩
  rw [← List.map_append, hl]
  unfold bD basis
  rw [if_neg P1, if_neg S1]; rfl
end Gk15
namespace Gk15
open PySem DL
theorem tt_ne : gNe (.bl true) (.bl true) = some (.bl false) := by kernel_rfl
theorem ff_ne : gNe (.bl false) (.bl false) = some (.bl false) := by kernel_rfl
/-- the three forms of a lap -/
theorem in_ints {lo : Int} {n i : Nat} {m : Int} (h : (intsI lo n)[i]? = some m) : lo ≤ m ∧ m < lo + n := by
  unfold intsI at h
  rw [List.getElem?_map] at h
  obtain ⟨j, hj, rfl⟩ := Option.map_eq_some_iff.mp h
  have := List.mem_range.mp (List.mem_of_getElem? hj)
  omega
structure Tri (a b d c e f p q s : Int) : Prop where
  o : Fm 32 a b d
  t : Fm 32 c e f
  fo : Fm 100000 p q s
  i : ∀ v, In p q s v ↔ In a b d v ∧ In c e f v
abbrev R16 (z : Option D) (xs : List D) (y2 y3 y4 : Option D) (a b d c e f p q s : Int) (y7 y8 y9 y10 y11 y12 y13 y14 y15 : Option D) : Rho := [z, some (.lst xs), y2, y3, y4, some (bD p q s), some (.lst [bD a b d, bD c e f]), y7, y8, y9, y10, y11, y12, y13, y14, y15]
section
variable {a b d c e f p q s : Int} {z y2 y3 y4 y7 y8 y9 y10 y11 y12 y13 y14 y15 : Option D} {xs : List D}
theorem v_point (h : Tri a b d c e f p q s) {x y : Int} (hx : -100 ≤ x ∧ x ≤ 100) (hy : -100 ≤ y ∧ y ≤ 100) : (∃ v, t1_law (R16 z xs y2 y3 y4 a b d c e f p q s y7 y8 (some (.int x)) (some (.int y)) y11 y12 y13 y14 y15) = .ok .nx (R16 z xs y2 y3 y4 a b d c e f p q s y7 y8 (some (.int x)) (some (.int y)) v y12 y13 y14 y15)) ∧ ∃ v, l3_law (R16 z xs y2 y3 y4 a b d c e f p q s y7 y8 (some (.int x)) (some (.int y)) y11 y12 y13 y14 y15) = .ok .nx (R16 z xs y2 y3 y4 a b d c e f p q s y7 y8 (some (.int x)) (some (.int y)) v y12 y13 y14 y15) := by
  obtain ⟨d1, r1, q1, _⟩ := w_red (h.o.mono (by omega)) (x := x) (y := y) ⟨by omega, by omega⟩
  obtain ⟨d2, r2, q2, _⟩ := w_red (h.t.mono (by omega)) (x := x) (y := y) ⟨by omega, by omega⟩
  obtain ⟨d3, r3, q3, _⟩ := w_red h.fo (x := x) (y := y) ⟨by omega, by omega⟩
  have i0 : ∀ A B : D, gIx (.lst [A, B]) (.int 0) = some A := fun _ _ => rfl
  have i1 : ∀ A B : D, gIx (.lst [A, B]) (.int 1) = some B := fun _ _ => rfl
  have ii := h.i (x, y)
  by_cases h1 : In a b d (x, y)
  · by_cases h2 : In c e f (x, y)
    · have h3 := ii.mpr ⟨h1, h2⟩
      simp only [h1, h2, h3, decide_true] at q1 q2 q3
      constructor <;> exact ⟨some (.bl true), by simp [t1_law, t0_law, l3_law, i0, i1, r1, r2, r3, q1, q2, q3, tt_ne]⟩
    · have h3 : ¬ In p q s (x, y) := fun h => h2 (ii.mp h).2
      simp only [h1, h2, h3, decide_true, decide_false] at q1 q2 q3
      constructor <;> exact ⟨some (.bl false), by simp [t1_law, t0_law, l3_law, i0, i1, r1, r2, r3, q1, q2, q3, ff_ne]⟩
  · have h3 : ¬ In p q s (x, y) := fun h => h1 (ii.mp h).1
    simp only [h1, h3, decide_false] at q1 q3
    constructor <;> exact ⟨some (.bl false), by simp [t1_law, t0_law, l3_law, i0, i1, r1, r2, r3, q1, q3, ff_ne]⟩
/-- forty drawn points -/
theorem v_draws (h : Tri a b d c e f p q s) {k : Int} (P : Pen k xs) (hk : k ≤ 99000) : ∃ ys y8' y9' y10' y11', DL.forM (gSet 8) l2_law ((intsI 0 40).map D.int) (R16 z xs y2 y3 y4 a b d c e f p q s (some (.int 60)) y8 y9 y10 y11 y12 y13 y14 y15) = .ok .nx (R16 z ys y2 y3 y4 a b d c e f p q s (some (.int 60)) y8' y9' y10' y11' y12 y13 y14 y15) ∧ Pen (k + 80) ys := by
  obtain ⟨ρ', er, ys, y8', y9', y10', y11', rfl, P'⟩ := forM_all (t := gSet 8) (b := l2_law) (e := D.int) (fun i ρ => ∃ ys y8 y9 y10 y11, ρ = R16 z ys y2 y3 y4 a b d c e f p q s (some (.int 60)) y8 y9 y10 y11 y12 y13 y14 y15 ∧ Pen (k + 2 * i) ys) (xs := intsI 0 40) (ρ := R16 z xs y2 y3 y4 a b d c e f p q s (some (.int 60)) y8 y9 y10 y11 y12 y13 y14 y15)
    ⟨xs, _, _, _, _, rfl, P.mono (by omega)⟩ (by
      rintro i n ρ hi ⟨ys, y8, y9, y10, y11, rfl, P⟩
      have h6 : i < 40 := by have := (List.getElem?_eq_some_iff.mp hi).1; rw [intsI_len] at this; exact this
      obtain ⟨x, z1, f1, P1, x0, x1⟩ := P.draw (by omega) (m := 120) (by decide) (by decide)
      obtain ⟨y, z2, f2, P2, u0, u1⟩ := P1.draw (by omega) (m := 120) (by decide) (by decide)
      obtain ⟨⟨v, ev⟩, _⟩ := v_point (z := z) (xs := z2) (y2 := y2) (y3 := y3) (y4 := y4) (y7 := some (.int 60)) (y8 := some (.int n)) (y11 := y11) (y12 := y12) (y13 := y13) (y14 := y14) (y15 := y15) h (x := x - 60) (y := y - 60) (by omega) (by omega)
      refine ⟨R16 z ys y2 y3 y4 a b d c e f p q s (some (.int 60)) (some (.int n)) y9 y10 y11 y12 y13 y14 y15, R16 z z2 y2 y3 y4 a b d c e f p q s (some (.int 60)) (some (.int n)) (some (.int (x - 60))) (some (.int (y - 60))) v y12 y13 y14 y15, rfl, ?_, z2, _, _, _, _, rfl, P2.mono (by omega)⟩
      have m60 : mulOk 2 60 = true := mulOk_l (by decide)
      simp [l2_law, m60, f1, f2, ev])
  exact ⟨ys, y8', y9', y10', y11', er, P'.mono (by rw [intsI_len]; omega)⟩
theorem v_row (h : Tri a b d c e f p q s) {x : Int} (hx : -100 ≤ x ∧ x ≤ 100) : ∃ y10' y11', l4_law (R16 z xs y2 y3 y4 a b d c e f p q s y7 y8 (some (.int x)) y10 y11 y12 y13 y14 y15) = .ok .nx (R16 z xs y2 y3 y4 a b d c e f p q s y7 y8 (some (.int x)) y10' y11' y12 y13 y14 y15) := by
  have hd : rng1 [.int 10] = some ((intsI 0 10).map D.int) := rng1_ok ⟨by decide, by decide⟩
  obtain ⟨ρ', er, y10', y11', rfl⟩ := forM_all (t := gSet 10) (b := l3_law) (e := D.int) (fun i ρ => ∃ y10 y11, ρ = R16 z xs y2 y3 y4 a b d c e f p q s y7 y8 (some (.int x)) y10 y11 y12 y13 y14 y15) (xs := intsI 0 10) (ρ := R16 z xs y2 y3 y4 a b d c e f p q s y7 y8 (some (.int x)) y10 y11 y12 y13 y14 y15)
    ⟨_, _, rfl⟩ (by
      rintro i n ρ hi ⟨y10, y11, rfl⟩
      have hn := in_ints hi
      obtain ⟨_, v, ev⟩ := v_point (z := z) (xs := xs) (y2 := y2) (y3 := y3) (y4 := y4) (y7 := y7) (y8 := y8) (y11 := y11) (y12 := y12) (y13 := y13) (y14 := y14) (y15 := y15) h (x := x) (y := n) hx (by omega)
      exact ⟨R16 z xs y2 y3 y4 a b d c e f p q s y7 y8 (some (.int x)) (some (.int n)) y11 y12 y13 y14 y15, _, rfl, ev, _, _, rfl⟩)
  exact ⟨y10', y11', by simp [l4_law, hd, er]⟩
end
end Gk15
namespace Gk15
open PySem DL
section
variable {a b d c e f p q s : Int} {z y2 y3 y4 y7 y8 y9 y10 y11 y12 y13 y14 y15 : Option D} {xs : List D}
theorem v_grid (h : Tri a b d c e f p q s) : ∃ y9' y10' y11', DL.forM (gSet 9) l4_law ((intsI (-9) 19).map D.int) (R16 z xs y2 y3 y4 a b d c e f p q s y7 y8 y9 y10 y11 y12 y13 y14 y15) = .ok .nx (R16 z xs y2 y3 y4 a b d c e f p q s y7 y8 y9' y10' y11' y12 y13 y14 y15) := by
  obtain ⟨ρ', er, y9', y10', y11', rfl⟩ := forM_all (t := gSet 9) (b := l4_law) (e := D.int) (fun i ρ => ∃ y9 y10 y11, ρ = R16 z xs y2 y3 y4 a b d c e f p q s y7 y8 y9 y10 y11 y12 y13 y14 y15) (xs := intsI (-9) 19) (ρ := R16 z xs y2 y3 y4 a b d c e f p q s y7 y8 y9 y10 y11 y12 y13 y14 y15)
    ⟨_, _, _, rfl⟩ (by
      rintro i n ρ hi ⟨y9, y10, y11, rfl⟩
      have hn := in_ints hi
      obtain ⟨y10', y11', ev⟩ := v_row (z := z) (xs := xs) (y2 := y2) (y3 := y3) (y4 := y4) (y7 := y7) (y8 := y8) (y10 := y10) (y11 := y11) (y12 := y12) (y13 := y13) (y14 := y14) (y15 := y15) h (x := n) (by omega)
      exact ⟨R16 z xs y2 y3 y4 a b d c e f p q s y7 y8 (some (.int n)) y10 y11 y12 y13 y14 y15, _, rfl, ev, _, _, _, rfl⟩)
  exact ⟨y9', y10', y11', er⟩
theorem basis_in {B : Int} (h : Fm B p q s) : ∀ v ∈ basis p q s, In p q s v := by
  intro v hv
  rcases h.cases with ⟨rfl, rfl, rfl⟩ | ⟨rfl, rfl, hs⟩ | ⟨hp, rfl⟩ | ⟨hp, hs, hn⟩
  · rw [basis_0] at hv; simp at hv
  · rw [basis_u hs] at hv; simp at hv; subst hv; exact in_step _ _ _
  · rw [basis_1 (by omega)] at hv; simp at hv; subst hv; exact in_gen h.pq
  · rw [basis_2 (by omega) (by omega) hn] at hv
    simp at hv
    rcases hv with rfl | rfl
    · exact in_gen h.pq
    · exact in_step _ _ _
theorem basis_bd (h : Fm 100000 p q s) : ∀ v ∈ basis p q s, (-100000 ≤ v.1 ∧ v.1 ≤ 100000) ∧ (-100000 ≤ v.2 ∧ v.2 ≤ 100000) := by
  have p0 := h.p0
  have s0 := h.s0
  have p1 := h.p1
  have s1 := h.s1
  have q0 := h.q0
  have q1 := h.q1
  intro v hv
  rcases h.cases with ⟨rfl, rfl, rfl⟩ | ⟨rfl, rfl, hs⟩ | ⟨hp, rfl⟩ | ⟨hp, hs, hn⟩
  · rw [basis_0] at hv; simp at hv
  · rw [basis_u hs] at hv; simp at hv; subst hv; constructor <;> simp only <;> omega
  · rw [basis_1 (by omega)] at hv; simp at hv; subst hv; constructor <;> simp only <;> omega
  · rw [basis_2 (by omega) (by omega) hn] at hv
    simp at hv
    rcases hv with rfl | rfl <;> constructor <;> simp only <;> omega
theorem ix0 (A B : D) : gIx (.lst [A, B]) (.int 0) = some A := rfl
theorem ix1 (A B : D) : gIx (.lst [A, B]) (.int 1) = some B := rfl
theorem v_each (h : Tri a b d c e f p q s) : t5_law (R16 z xs y2 y3 y4 a b d c e f p q s y7 y8 y9 y10 y11 y12 y13 y14 none) = t4_law (R16 z xs y2 y3 y4 a b d c e f p q s y7 y8 y9 y10 y11 y12 y13 y14 none) := by
  have cl : lcL [15] (gSet 15) (orT (truM (bin gNe (callM 2 [] m__law_reduced (consM (bin gIx (getV 6) (pureM (.int 0))) (consM (getV 15) (nilM)))) (appM gTup (consM (pureM (.int 0)) (consM (pureM (.int 0)) (nilM)))))) (truM (bin gNe (callM 2 [] m__law_reduced (consM (bin gIx (getV 6) (pureM (.int 1))) (consM (getV 15) (nilM)))) (appM gTup (consM (pureM (.int 0)) (consM (pureM (.int 0)) (nilM))))))) (getV 15) ((basis p q s).map cD) (R16 z xs y2 y3 y4 a b d c e f p q s y7 y8 y9 y10 y11 y12 y13 y14 none) = .ok (((basis p q s).filter fun _ => false).map cD) (R16 z xs y2 y3 y4 a b d c e f p q s y7 y8 y9 y10 y11 y12 y13 y14 none) := by
    refine lc_filterP fun v hv => ⟨R16 z xs y2 y3 y4 a b d c e f p q s y7 y8 y9 y10 y11 y12 y13 y14 (some (cD v)), rfl, ?_, fun h => by simp at h, rfl⟩
    obtain ⟨x, y⟩ := v
    obtain ⟨h1, h2⟩ := (h.i (x, y)).mp (basis_in h.fo _ hv)
    obtain ⟨bx, by'⟩ := basis_bd h.fo _ hv
    obtain ⟨d1, r1, _, q1⟩ := w_red (h.o.mono (by omega)) (x := x) (y := y) ⟨bx, by'⟩
    obtain ⟨d2, r2, _, q2⟩ := w_red (h.t.mono (by omega)) (x := x) (y := y) ⟨bx, by'⟩
    simp only [h1, h2, decide_true, Bool.not_true] at q1 q2
    simp [ix0, ix1, r1, r2, q1, q2]
  rw [show (basis p q s).filter (fun _ => false) = [] from List.filter_eq_nil_iff.mpr (by simp), List.map_nil] at cl
  have l2 := basis_len p q s
  have nn := nil_ne (L := [])
  simp only [List.map_nil, decide_true, Bool.not_true] at nn
  simp [t5_law, cl, nn, show (basis p q s).length ≤ 16777216 by omega]
theorem v_index (h : Tri a b d c e f p q s) (idx : 0 < a ∧ 0 < d ∧ 0 < c ∧ 0 < f → 0 < p ∧ 0 < s ∧
      ∃ G, p * s * G = a * d * (c * f) ∧ 0 ≤ G ∧ ∀ j, j ∣ G ↔ j ∣ a * d ∧ j ∣ a * f ∧ j ∣ c * d ∧ j ∣ c * f ∧ j ∣ a * e - b * c) :
    ∃ y12' y13' y14', t4_law (R16 z xs y2 y3 y4 a b d c e f p q s y7 y8 y9 y10 y11 y12 y13 y14 none) = .ok .nx (R16 z xs y2 y3 y4 a b d c e f p q s y7 y8 y9 y10 y11 y12' y13' y14' none) := by
  by_cases hn : 0 < a ∧ 0 < d ∧ 0 < c ∧ 0 < f
  · obtain ⟨hp, hs, G, hG, G0, g⟩ := idx hn
    obtain ⟨ha, hd, hc, hf⟩ := hn
    obtain ⟨P, Q, S, er, hm, P0, S0, P1⟩ := v_joint h.o h.t ha hd hc hf hG G0 g
    have a1 := h.o.p1
    have a2 := h.o.s1
    have a3 := h.t.p1
    have a4 := h.t.s1
    have p1 := h.fo.p1
    have s1 := h.fo.s1
    have ad := mul_bd (a := a) (b := d) (A := 32) (B := 32) (by omega) (by omega)
    have cf := mul_bd (a := c) (b := f) (A := 32) (B := 32) (by omega) (by omega)
    have all := mul_bd (a := a * d) (b := c * f) (A := 1024) (B := 1024) (by omega) (by omega)
    have TP : 0 < p * s * P := Int.mul_pos (Int.mul_pos hp hs) P0
    have sl := mul_le' (x := S) (z := p * s * P) (by omega) TP
    rw [Int.mul_comm, hm] at sl
    have m1 : mulOk a d = true := mulOk_l (by omega)
    have m2 : mulOk c f = true := mulOk_l (by omega)
    have m3 : mulOk p s = true := mulOk_l (by omega)
    have m4 : mulOk (p * s) P = true := mulOk_r (by omega)
    have m5 : mulOk (p * s * P) S = true := mulOk_r (by omega)
    have m6 : mulOk (a * d) (c * f) = true := mulOk_l (by omega)
    refine ⟨some (.int (a * d)), some (.int (c * f)), some (.tup [T2 P Q, T2 0 S]), ?_⟩
    have e1 := bD_2 (p := a) (q := b) (s := d) (by omega) (by omega) (h.o.n (by omega) (by omega))
    have e2 := bD_2 (p := c) (q := e) (s := f) (by omega) (by omega) (h.t.n (by omega) (by omega))
    have e3 := bD_2 (p := p) (q := q) (s := s) (by omega) (by omega) (h.fo.n (by omega) (by omega))
    have v1 : (basis a b d).map cD = [T2 a b, T2 0 d] := by rw [basis_2 (by omega) (by omega) (h.o.n (by omega) (by omega))]; rfl
    have v2 : (basis c e f).map cD = [T2 c e, T2 0 f] := by rw [basis_2 (by omega) (by omega) (h.t.n (by omega) (by omega))]; rfl
    rw [v1, v2] at er
    simp only [List.cons_append, List.nil_append] at er
    have ga : gAdd (.lst [T2 a b, T2 0 d]) (.lst [T2 c e, T2 0 f]) = some (.lst [T2 a b, T2 0 d, T2 c e, T2 0 f]) := by rfl
    unfold R16
    rw [e1, e2, e3]
    simp [t4_law, t3_law, t2_law, ix0, ix1, m1, m2, m3, m4, m5, m6, er, ga, hm, -s_addL]
  · have i1 := h.o.p0
    have i2 := h.o.s0
    have i3 := h.t.p0
    have i4 := h.t.s0
    refine ⟨y12, y13, y14, ?_⟩
    by_cases l1 : (basis a b d).length = 2
    · have l2 : (basis c e f).length ≠ 2 := fun l2 => by
        rw [len_two] at l1 l2
        apply hn
        by_cases a0 : a = 0
        · rw [if_pos a0] at l1; split at l1 <;> omega
        · rw [if_neg a0] at l1
          by_cases d0 : d = 0
          · rw [if_pos d0] at l1; omega
          · by_cases c0 : c = 0
            · rw [if_pos c0] at l2; split at l2 <;> omega
            · rw [if_neg c0] at l2
              by_cases f0 : f = 0
              · rw [if_pos f0] at l2; omega
              · omega
      have l1' : ((basis a b d).length : Int) = 2 := by omega
      have l2' : ¬ ((basis c e f).length : Int) = 2 := by omega
      simp [t4_law, ix0, ix1, l1, l1', l2, l2']
    · have l1' : ¬ ((basis a b d).length : Int) = 2 := by omega
      simp [t4_law, ix0, ix1, l1, l1']
end
theorem v_shifts {k : Int} {xs : List D} (h : Pen k xs) (hk : k ≤ 99000) : ∃ (L : List (Int × Int)) (ys : List D), m__law_some_shifts [.lst xs] = .ok (.lst (L.map cD)) [some (.lst ys)] ∧ Pen (k + 7) ys ∧ L.length ≤ 3 ∧ ∀ v ∈ L, Sm4 v := by
  obtain ⟨n, y0, e0, p0, h0, h1⟩ := h.draw (by omega) (m := 4) (by decide) (by decide)
  have hr : rng1 [.int n] = some ((intsI 0 n.toNat).map D.int) := rng1_ok (by omega)
  obtain ⟨L, ρ', er, ll, ok, ys, rfl, p⟩ := lc_ex (vs := [1]) (t := gSet 1) (te := appM gTup (consM (bin gSubI (callP 1 [] m__law_draw 0 (consM (pureM (.int 9)) (nilM))) (pureM (.int 4))) (consM (bin gSubI (callP 1 [] m__law_draw 0 (consM (pureM (.int 9)) (nilM))) (pureM (.int 4))) (nilM)))) (g := cD) (Ok := Sm4)
    (fun i ρ => ∃ ys, ρ = [some (.lst ys), none] ∧ Pen (k + 1 + 2 * i) ys) (ds := (intsI 0 n.toNat).map D.int) (k := 0) (ρ := [some (.lst y0), none])
    ⟨y0, rfl, p0.mono (by omega)⟩ (by
      rintro i d ρ hd h0 hi ⟨ys, rfl, p⟩
      rw [List.length_map, intsI_len] at hi
      obtain ⟨x, z1, f1, q1, a1, b1⟩ := p.draw (by omega) (m := 9) (by decide) (by decide)
      obtain ⟨y, z2, f2, q2, a2, b2⟩ := q1.draw (by omega) (m := 9) (by decide) (by decide)
      refine ⟨[some (.lst ys), some d], [some (.lst z2), some d], (x - 4, y - 4), rfl, ?_, ⟨⟨by simp only; omega, by simp only; omega⟩, ⟨by simp only; omega, by simp only; omega⟩⟩, z2, rfl, q2.mono (by omega)⟩
      simp [f1, f2])
  rw [List.length_map, intsI_len] at ll p
  refine ⟨L, ys, ?_, p.mono (by omega), by omega, ok⟩
  simp [m__law_some_shifts, b__law_some_shifts, e0, hr, er, show (intsI 0 n.toNat).length ≤ 16777216 by rw [intsI_len]; omega]
end Gk15
namespace Gk15
open PySem DL
theorem w_need {pt : D} {L : List (Int × Int)} (hL : ∀ v ∈ L, Sm4 v) (hl : L.length ≤ 3) : m_need_shifts [pt, .lst (L.map cD)] = .ok .non [] := v_need (.inl rfl) (fun v hv => (hL v hv).nr) (by omega)
theorem w_both {L1 L2 : List (Int × Int)} (h1 : ∀ v ∈ L1, Sm4 v) (l1 : L1.length ≤ 3) (h2 : ∀ v ∈ L2, Sm4 v) (l2 : L2.length ≤ 3) {x y r : D} (e1 : m_least_form [.lst (L1.map cD)] = .ok x []) (e2 : m_least_form [.lst (L2.map cD)] = .ok y []) (e3 : m_both_of [x, y] = .ok r []) : m_lattice_both [.lst (L1.map cD), .lst (L2.map cD)] = .ok r [] := by
  have n1 := fun pt => w_need (pt := pt) h1 l1
  have n2 := fun pt => w_need (pt := pt) h2 l2
  simp [m_lattice_both, b_lattice_both, t1_lattice_both, t0_lattice_both, n1, n2, e1, e2, e3]
def Inv (z : Option D) (i : Nat) (ρ : Rho) : Prop := ∃ xs y2 y3 y4 y5 y6 y7 y8 y9 y10 y11 y12 y13 y14, ρ = [z, some (.lst xs), y2, y3, y4, y5, y6, y7, y8, y9, y10, y11, y12, y13, y14, none] ∧ Pen (100 * i) xs
theorem lap (z : Option D) (n : Int) (i : Nat) (hi : i < 6) (ρ : Rho) (hρ : Inv z i ρ) : ∃ ρ1 ρ2, gSet 2 (.int n) ρ = some ρ1 ∧ l14_law ρ1 = .ok .nx ρ2 ∧ Inv z (i + 1) ρ2 := by
  obtain ⟨xs, y2, y3, y4, y5, y6, y7, y8, y9, y10, y11, y12, y13, y14, rfl, P0⟩ := hρ
  obtain ⟨L1, z1, e1, P1, l1, k1⟩ := v_shifts P0 (by omega)
  obtain ⟨L2, z2, e2, P2, l2, k2⟩ := v_shifts P1 (by omega)
  obtain ⟨a, b, d, f1, st1, fm1⟩ := v_small k1 (by omega)
  obtain ⟨c, e, f, f2, st2, fm2⟩ := v_small k2 (by omega)
  obtain ⟨p, q, s, eb, fm, ii, idx⟩ := v_both fm1 fm2
  obtain ⟨p', q', s', eb', fm', ii', _⟩ := v_both fm2 fm1
  obtain ⟨p2, q2, s2, eb2, fmo, ii2, _⟩ := v_both fm1 fm1
  obtain ⟨rfl, rfl, rfl⟩ := fm_uniq fm fm' (fun v => by rw [ii, ii']; exact and_comm)
  obtain ⟨rfl, rfl, rfl⟩ := fm_uniq fmo fm1 (fun v => by rw [ii2]; exact ⟨fun h => h.1, fun h => ⟨h, h⟩⟩)
  have b1 := w_both k1 l1 k2 l2 f1 f2 eb
  have b2 := w_both k2 l2 k1 l1 f2 f1 eb'
  have b3 := w_both k1 l1 k1 l1 f1 f1 eb2
  have c1 := v_lattice (z := .lst (L1.map cD)) (.inl rfl) (fun v hv => (k1 v hv).nr) (by omega) f1
  have c2 := v_lattice (z := .lst (L2.map cD)) (.inl rfl) (fun v hv => (k2 v hv).nr) (by omega) f2
  have c3 := v_lattice (z := .lst ((basis p q s).map cD)) (.inl rfl) (basis_nr fm (by omega)) (by have := basis_len p q s; omega) (v_own fm (by omega))
  have T : Tri p2 q2 s2 c e f p q s := ⟨fm1, fm2, fm, ii⟩
  obtain ⟨z3, y8', y9', y10', y11', e4, P3⟩ := v_draws (z := z) (y2 := some (.int n)) (y3 := some (.lst (L1.map cD))) (y4 := some (.lst (L2.map cD))) (y8 := y8) (y9 := y9) (y10 := y10) (y11 := y11) (y12 := y12) (y13 := y13) (y14 := y14) (y15 := none) T P2 (by omega)
  obtain ⟨y9'', y10'', y11'', e5⟩ := v_grid (z := z) (xs := z3) (y2 := some (.int n)) (y3 := some (.lst (L1.map cD))) (y4 := some (.lst (L2.map cD))) (y7 := some (.int 60)) (y8 := y8') (y9 := y9') (y10 := y10') (y11 := y11') (y12 := y12) (y13 := y13) (y14 := y14) (y15 := none) T
  have e6 := v_each (z := z) (xs := z3) (y2 := some (.int n)) (y3 := some (.lst (L1.map cD))) (y4 := some (.lst (L2.map cD))) (y7 := some (.int 60)) (y8 := y8') (y9 := y9'') (y10 := y10'') (y11 := y11'') (y12 := y12) (y13 := y13) (y14 := y14) T
  obtain ⟨y12', y13', y14', e7⟩ := v_index (z := z) (xs := z3) (y2 := some (.int n)) (y3 := some (.lst (L1.map cD))) (y4 := some (.lst (L2.map cD))) (y7 := some (.int 60)) (y8 := y8') (y9 := y9'') (y10 := y10'') (y11 := y11'') (y12 := y12) (y13 := y13) (y14 := y14) T idx
  refine ⟨[z, some (.lst xs), some (.int n), y3, y4, y5, y6, y7, y8, y9, y10, y11, y12, y13, y14, none], R16 z z3 (some (.int n)) (some (.lst (L1.map cD))) (some (.lst (L2.map cD))) p2 q2 s2 c e f p q s (some (.int 60)) y8' y9'' y10'' y11'' y12' y13' y14' none, rfl, ?_, z3, _, _, _, _, _, _, _, _, _, _, _, _, _, rfl, P3.mono (by omega)⟩
  have w0 : l14_law [z, some (.lst xs), some (.int n), y3, y4, y5, y6, y7, y8, y9, y10, y11, y12, y13, y14, none] = t10_law [z, some (.lst z2), some (.int n), some (.lst (L1.map cD)), some (.lst (L2.map cD)), y5, y6, y7, y8, y9, y10, y11, y12, y13, y14, none] := by
    simp [l14_law, e1, e2]
  have w1 : t10_law [z, some (.lst z2), some (.int n), some (.lst (L1.map cD)), some (.lst (L2.map cD)), y5, y6, y7, y8, y9, y10, y11, y12, y13, y14, none] = t9_law (R16 z z2 (some (.int n)) (some (.lst (L1.map cD))) (some (.lst (L2.map cD))) p2 q2 s2 c e f p q s y7 y8 y9 y10 y11 y12 y13 y14 none) := by
    simp [t10_law, b1, c1, c2]
  have w2 : t9_law (R16 z z2 (some (.int n)) (some (.lst (L1.map cD))) (some (.lst (L2.map cD))) p2 q2 s2 c e f p q s y7 y8 y9 y10 y11 y12 y13 y14 none) = t8_law (R16 z z2 (some (.int n)) (some (.lst (L1.map cD))) (some (.lst (L2.map cD))) p2 q2 s2 c e f p q s y7 y8 y9 y10 y11 y12 y13 y14 none) := by
    have ne : ∀ u v w, gNe (bD u v w) (bD u v w) = some (.bl false) := fun u v w => by
      have := eqe_P2.tupL.gNe (by decide) (basis u v w) (basis u v w)
      rw [decide_eq_true rfl] at this
      exact this
    have bx : ∀ (A B : D), byIx [1, 0] [A, B] = [B, A] := fun _ _ => rfl
    have gl : gListA [bD p q s] = some (.lst ((basis p q s).map cD)) := rfl
    simp only [bD] at c3 ne gl
    simp [t9_law, ix0, ix1, bx, gl, b2, b3, c3, ne]
  have w3 : t8_law (R16 z z2 (some (.int n)) (some (.lst (L1.map cD))) (some (.lst (L2.map cD))) p2 q2 s2 c e f p q s y7 y8 y9 y10 y11 y12 y13 y14 none) = t4_law (R16 z z3 (some (.int n)) (some (.lst (L1.map cD))) (some (.lst (L2.map cD))) p2 q2 s2 c e f p q s (some (.int 60)) y8' y9'' y10'' y11'' y12 y13 y14 none) := by
    have hd : rng1 [.int 40] = some ((intsI 0 40).map D.int) := rng1_ok ⟨by decide, by decide⟩
    have hd2 : rng2 [.int (-9), .int 10] = some ((intsI (-9) 19).map D.int) := rng2_ok ⟨by decide, by decide⟩ ⟨by decide, by decide⟩
    rw [← e6]
    simp [t8_law, t7_law, t6_law, hd, hd2, e4, e5]
  exact w0.trans (w1.trans (w2.trans (w3.trans e7)))
end Gk15
namespace Gk15
open PySem DL
abbrev BV (s : Str) : Exn := ⟨"BadValue", [("part", .str s)]⟩
/-! ### what is heard -/
theorem ask0 {j : Nat} {fa : Addr} {F0 : L2.Hp} {g : List D → Res D} : askM j fa F0 0 g nilM = askM j fa F0 0 (fun _ => g []) nilM := by
  funext ρ
  show (bindM (chkFn j fa F0) fun _ => bindM nilM fun ds => if ds.length = 0 then ofRes (g ds) else failM) ρ = (bindM (chkFn j fa F0) fun _ => bindM nilM fun ds => if ds.length = 0 then ofRes (g []) else failM) ρ
  rfl
theorem heard_g {fa : Addr} {F0 : L2.Hp} {g : List D → Res D} {ds : List D} : m__law_heard fa F0 g ds = m__law_heard fa F0 (fun _ => g []) ds := by
  unfold m__law_heard b__law_heard t7__law_heard
  rw [ask0]
  rfl
noncomputable def hR (r : Res D) (ρ : Rho) : Res D := callHM 0 m__law_heard (fun _ _ => r) nilM ρ
theorem heard_eq {lam : Rho → List D → Res D} {ρ : Rho} : callHM 0 m__law_heard lam nilM ρ = hR (lam ρ []) ρ := by
  unfold hR
  show (ofRes (allR fun a F0 => m__law_heard a F0 (lam ρ) [.fn a F0]) ρ) = ofRes (allR fun a F0 => m__law_heard a F0 (fun _ => lam ρ []) [.fn a F0]) ρ
  have e : (fun (a : Addr) (F0 : L2.Hp) => m__law_heard a F0 (lam ρ) [.fn a F0]) = fun (a : Addr) (F0 : L2.Hp) => m__law_heard a F0 (fun _ => lam ρ []) [.fn a F0] := by
    funext a F0
    exact heard_g
  rw [e]
theorem hR_of {r : Res D} {d : D} {ρ : Rho} (h : ∀ fa F0, m__law_heard fa F0 (fun _ => r) [.fn fa F0] = .ok d []) : hR r ρ = .ok d ρ := by
  unfold hR
  show (ofRes (allR fun a F0 => m__law_heard a F0 (fun _ => r) [.fn a F0]) ρ) = _
  rw [allR_ok fun a F => ⟨[], h a F⟩]
  rfl
abbrev V2 (a s : Str) : D := .tup [.str a, .str s]
abbrev XL : List Str := ["BadValue", "BadNumber", "BadPattern", "Misfit", "BadText", "TooMany"]
abbrev XS : List (Str × List Str) := [("BadValue", ["SeamError"]), ("BadNumber", ["SeamError"]), ("BadPattern", ["SeamError"]), ("Misfit", ["SeamError"]), ("BadText", ["SeamError"]), ("TooMany", ["SeamError"])]
theorem non_exn (c : Str) (fs : List (Str × D)) : gIsN (.exn c fs) .non = some (.bl false) := rfl
theorem hR_v {s : Str} {ρ : Rho} : hR (.exc (BV s) []) ρ = .ok (V2 "value" s) ρ := hR_of fun fa F0 => by
  have c : chkFn 0 fa F0 [some (.fn fa F0), some .non, none] = .ok () [some (.fn fa F0), some .non, none] := s_chkFn rfl
  have i1 : isiE XL XS "BadValue" (.exn "BadValue" [("part", .str s)]) = some (.bl true) := by rfl
  have f1 : gFldX XL "part" (.exn "BadValue" [("part", .str s)]) = some (.str s) := by rfl
  simp [m__law_heard, b__law_heard, t7__law_heard, t6__law_heard, t5__law_heard, c, non_exn, i1, f1, -s_isiE, -s_fldX]
def Z201 : List D := List.replicate 201 (.tup [.int 0, .int 0])
def W200 : List D := List.replicate 200 (.tup [.int 2, .int 0])
def OD : List D := [.non, .int 5, .str "ab", .dK [], .lst [.non], .lst [.tup [.int 0]], .lst [.tup [.int 0, .int 0, .int 0]], .lst [.lst [.int 0, .int 0]], .lst [.tup [.bl true, .int 0]], .lst [.tup [.int 0, .str "1"]], .lst [.tup [.int 0, .int 0], .int 5], .lst Z201, .lst [.tup [.int 1000000000001, .int 0]]]
def BD : List D := [.non, .int 5, .tup [.int 0], .lst [.int 0, .int 0], .tup [.bl true, .int 0], .tup [.int 0, .int 0, .int 0], .str "ab", .tup [.int 0, .int (-1000000000001)]]
theorem z_need {d : D} (h : d ∈ OD) {p : Str} : m_need_shifts [.str p, d] = .exc (BV p) [] := by
  simp only [OD, List.mem_cons, List.not_mem_nil, or_false] at h
  rcases h with rfl | rfl | rfl | rfl | rfl | rfl | rfl | rfl | rfl | rfl | rfl | rfl | rfl <;> kernel_rfl
theorem z_cell {d : D} (h : d ∈ BD) : m_is_cell [d] = .ok (.bl false) [] := by
  simp only [BD, List.mem_cons, List.not_mem_nil, or_false] at h
  rcases h with rfl | rfl | rfl | rfl | rfl | rfl | rfl | rfl <;> kernel_rfl
theorem n_nil {p : Str} : m_need_shifts [.str p, .lst []] = .ok .non [] := by kernel_rfl
theorem n_one {p : Str} : m_need_shifts [.str p, .lst [.tup [.int 1, .int 0]]] = .ok .non [] := by kernel_rfl
theorem form_is {L : List (Int × Int)} {p q s : Int} (st : Stt p q s L) (hL : ∀ c ∈ L, Nr c) (hl : L.length ≤ 1000000) : m_least_form [.lst (L.map cD)] = .ok (bD p q s) [] := by
  obtain ⟨p', q', s', e, st'⟩ := w_form (z := .lst (L.map cD)) (L := L) rfl hL hl
  obtain ⟨_, _, u⟩ := uniq st' st (fun _ => Iff.rfl)
  rw [e, u]
theorem one_pos {x y : Int} (h : 0 < x ∧ x ≤ 1000000000000) (hy : 0 ≤ y ∧ y ≤ 1000000000000) : m_least_form [.lst [T2 x y]] = .ok (.tup [T2 x y]) [] := by
  have e := form_is (L := [(x, y)]) (p := x) (q := y) (s := 0) ⟨by omega, by omega, by omega, by omega, fun k α β => by simp⟩ (fun c hc => by
    rw [List.mem_singleton] at hc; subst hc; exact ⟨by simp only; omega, by simp only; omega, by simp only; omega, by simp only; omega⟩) (by simp)
  rw [bD_1 (by omega)] at e
  exact e
theorem two_pos : m_least_form [.lst [T2 0 1000000, T2 1000000 0]] = .ok (.tup [T2 1000000 0, T2 0 1000000]) [] := by
  have e := form_is (L := [(0, 1000000), (1000000, 0)]) (p := 1000000) (q := 0) (s := 1000000) ⟨by omega, by omega, by omega, by omega, fun k α β => by simp; exact and_comm⟩ (fun c hc => by
    simp at hc
    rcases hc with rfl | rfl <;> exact ⟨by simp only; omega, by simp only; omega, by simp only; omega, by simp only; omega⟩) (by simp)
  rw [bD_2 (by omega) (by omega) (by decide)] at e
  exact e
theorem many_pos : m_lattice [.lst W200] = .ok (.tup [T2 2 0]) [] := by
  have hL : ∀ c ∈ List.replicate 200 ((2, 0) : Int × Int), Nr c := fun c hc => by
    have := (List.mem_replicate.mp hc).2
    subst this
    exact ⟨by simp only; omega, by simp only; omega, by simp only; omega, by simp only; omega⟩
  have e := form_is (L := List.replicate 200 (2, 0)) (p := 2) (q := 0) (s := 0) ⟨by omega, by omega, by omega, by omega, fun k α β => by
    constructor
    · rintro ⟨h, _⟩ c hc
      have := (List.mem_replicate.mp hc).2
      subst this
      exact h
    · intro h
      exact ⟨h (2, 0) (List.mem_replicate.mpr ⟨by decide, rfl⟩), by simp⟩⟩ hL (by simp)
  have l := v_lattice (z := .lst ((List.replicate 200 ((2, 0) : Int × Int)).map cD)) (.inl rfl) hL (by simp) e
  rw [bD_1 (by omega), List.map_replicate] at l
  exact l
theorem div_0 : m_divisor [.int 1000000, .int 0] = .ok (.int 1000000) [] := by
  obtain ⟨g, e, hg⟩ := v_divisor (A := 1000000) (B := 0) (by omega) (by omega)
  have h1 := (hg.d 1000000).mpr ⟨Int.dvd_refl _, Int.dvd_zero _⟩
  have h2 := ((hg.d g).mp (Int.dvd_refl _)).1
  rw [Int.dvd_antisymm hg.n (by omega) h2 h1] at e
  exact e
theorem div_1 : m_divisor [.int 1000000, .int 1] = .ok (.int 1) [] := by
  obtain ⟨g, e, hg⟩ := v_divisor (A := 1000000) (B := 1) (by omega) (by omega)
  have h2 := ((hg.d g).mp (Int.dvd_refl _)).2
  rw [Int.dvd_antisymm hg.n (by omega) h2 (Int.one_dvd _)] at e
  exact e
theorem big_both : m_both_of [.tup [T2 1000000 1], .tup [T2 1000000 0, T2 0 1000000]] = .ok (.tup [T2 1000000000000 1000000]) [] := by
  have re := row_eq (A := 1000000) (B := 1)
  have e3 := one_pos (x := 1000000000000) (y := 1000000) (by omega) (by omega)
  have o1 := divOk_of (m := 1000000) (by omega) (by omega)
  have o2 := divOk_of (m := 1) (by omega) (by omega)
  have m1 : ∀ i, mulOk 1000000 i = true := fun i => mulOk_l (by decide)
  have m2 : ∀ i, mulOk 1 i = true := fun i => mulOk_l (by decide)
  have el : m_line_both [.tup [T2 1000000 1], .tup [T2 1000000 0, T2 0 1000000]] = .ok (.tup [T2 1000000000000 1000000]) [] := by
    simp [m_line_both, b_line_both, t11_line_both, t10_line_both, t9_line_both, t8_line_both, t7_line_both, t6_line_both, t5_line_both, t4_line_both, re, div_0, div_1, e3, o1, o2, m1, m2]
  simp [m_both_of, b_both_of, el]
theorem big_end : m_lattice_both [.lst [T2 1000000 1], .lst [T2 0 1000000, T2 1000000 0]] = .ok (.tup [T2 1000000000000 1000000]) [] := by
  have n1 : ∀ p : Str, m_need_shifts [.str p, .lst [T2 1000000 1]] = .ok .non [] := fun p => by kernel_rfl
  have n2 : ∀ p : Str, m_need_shifts [.str p, .lst [T2 0 1000000, T2 1000000 0]] = .ok .non [] := fun p => by kernel_rfl
  have e1 := one_pos (x := 1000000) (y := 1) (by omega) (by omega)
  simp [m_lattice_both, b_lattice_both, t1_lattice_both, t0_lattice_both, n1, n2, e1, two_pos, big_both]
end Gk15
namespace Gk15
open PySem DL
abbrev VV (s : Str) : D := .tup [.str "value", .str s]
theorem pw12 : gPow (.int 10) (.int 12) = some (.int 1000000000000) := powOk (i := 10) (k := 12) (by decide) (by decide)
theorem pw6 : gPow (.int 10) (.int 6) = some (.int 1000000) := powOk (i := 10) (k := 6) (by decide) (by decide)
theorem lapR {k : Int} {xs : List D} {y2 y3 y4 : Option D} (P : Pen k xs) (hk : k ≤ 99000) (n : Int) : ∃ ys y2' y3' y4', l7__law_refused_right [some (.lst xs), some (.int n), y2, y3, y4] = .ok .nx [some (.lst ys), some (.int n), y2', y3', y4'] ∧ Pen (k + 2) ys := by
  obtain ⟨o, ho, z1, e1, P1⟩ := pickD (ds := OD) P (by omega) (by decide) (by decide)
  obtain ⟨w, hw, z2, e2, P2⟩ := pickD (ds := BD) P1 (by omega) (by decide) (by decide)
  have nd := fun p => z_need (p := p) ho
  have cl := z_cell hw
  have a1 : m_lattice [o] = .exc (BV "shifts") [] := by simp [m_lattice, b_lattice, nd]
  have a2 : m_in_lattice [o, w] = .exc (BV "shifts") [] := by simp [m_in_lattice, b_in_lattice, nd]
  have a3 : m_rest_of [o, w] = .exc (BV "shifts") [] := by simp [m_rest_of, b_rest_of, nd]
  have a4 : m_many_classes [o] = .exc (BV "shifts") [] := by simp [m_many_classes, b_many_classes, nd]
  have a5 : m_in_lattice [.lst [], w] = .exc (BV "shift") [] := by simp [m_in_lattice, b_in_lattice, n_nil, cl]
  have a6 : m_rest_of [.lst [.tup [.int 1, .int 0]], w] = .exc (BV "shift") [] := by simp [m_rest_of, b_rest_of, n_one, cl]
  have a7 : m_lattice_both [o, o] = .exc (BV "one") [] := by simp [m_lattice_both, b_lattice_both, nd]
  have a8 : m_lattice_both [.lst [], o] = .exc (BV "other") [] := by simp [m_lattice_both, b_lattice_both, t1_lattice_both, n_nil, nd]
  have q1 : gNe (.lst [VV "shifts", VV "shifts", VV "shifts", VV "shifts"]) (.lst [VV "shifts", VV "shifts", VV "shifts", VV "shifts"]) = some (.bl false) := gNe_selfS (by decide +kernel)
  have q2 : gNe (.lst [VV "shift", VV "shift", VV "one", VV "other"]) (.lst [VV "shift", VV "shift", VV "one", VV "other"]) = some (.bl false) := gNe_selfS (by decide +kernel)
  have g1 : ∀ A B C E : D, gAdd (.lst [A, B]) (.lst [C, E]) = some (.lst [A, B, C, E]) := fun _ _ _ _ => by rfl
  have g2 : gMulA (.lst [VV "shifts"]) (.int 4) = some (.lst [VV "shifts", VV "shifts", VV "shifts", VV "shifts"]) := by rfl
  have g3 : gMulA (.lst [.tup [.int 0, .int 0]]) (.int 201) = some (.lst Z201) := by kernel_rfl
  refine ⟨z2, some o, some w, some (.lst [VV "shift", VV "shift", VV "one", VV "other"]), ?_, P2.mono (by omega)⟩
  have s0 : l7__law_refused_right [some (.lst xs), some (.int n), y2, y3, y4] = t6__law_refused_right [some (.lst z1), some (.int n), some o, y3, y4] := by
    simp only [OD] at e1
    simp [l7__law_refused_right, pw12, g3, e1, -s_powI, -s_mulAL]
  have s1 : t6__law_refused_right [some (.lst z1), some (.int n), some o, y3, y4] = t5__law_refused_right [some (.lst z2), some (.int n), some o, some w, y4] := by
    simp only [BD] at e2
    simp [t6__law_refused_right, pw12, e2, -s_powI]
  have s2 : t5__law_refused_right [some (.lst z2), some (.int n), some o, some w, y4] = t2__law_refused_right [some (.lst z2), some (.int n), some o, some w, some (.lst [VV "shifts", VV "shifts", VV "shifts", VV "shifts"])] := by
    simp [t5__law_refused_right, t4__law_refused_right, t3__law_refused_right, heard_eq, hR_v, a1, a2, a3, a4, g1, g2, q1, -s_callHM, -s_mulAL, -s_addL]
  have s3 : t2__law_refused_right [some (.lst z2), some (.int n), some o, some w, some (.lst [VV "shifts", VV "shifts", VV "shifts", VV "shifts"])] = .ok .nx [some (.lst z2), some (.int n), some o, some w, some (.lst [VV "shift", VV "shift", VV "one", VV "other"])] := by
    simp [t2__law_refused_right, t1__law_refused_right, t0__law_refused_right, heard_eq, hR_v, a5, a6, a7, a8, g1, q2, -s_callHM, -s_mulAL, -s_addL]
  exact s0.trans (s1.trans (s2.trans s3))
theorem v_refused {k : Int} {xs : List D} (P : Pen k xs) (hk : k ≤ 98000) : ∃ ys, m__law_refused_right [.lst xs] = .ok (.bl true) [some (.lst ys)] := by
  have hd : rng1 [.int 3] = some ((intsI 0 3).map D.int) := rng1_ok ⟨by decide, by decide⟩
  obtain ⟨ρ', e, ys, y1, y2, y3, y4, rfl, _⟩ := forM_all (t := gSet 1) (b := l7__law_refused_right) (e := D.int) (fun i ρ => ∃ ys y1 y2 y3 y4, ρ = [some (.lst ys), y1, y2, y3, y4] ∧ Pen (k + 2 * i) ys) (xs := intsI 0 3) (ρ := [some (.lst xs), none, none, none, none])
    ⟨xs, _, _, _, _, rfl, P.mono (by omega)⟩ (by
      rintro i n ρ hi ⟨ys, y1, y2, y3, y4, rfl, p⟩
      have h6 : i < 3 := by have := (List.getElem?_eq_some_iff.mp hi).1; rw [intsI_len] at this; exact this
      obtain ⟨zs, y2', y3', y4', er, p'⟩ := lapR (y2 := y2) (y3 := y3) (y4 := y4) p (by omega) n
      exact ⟨_, _, rfl, er, zs, _, _, _, _, rfl, p'.mono (by omega)⟩)
  have mu : gMulA (.lst [.tup [.int 2, .int 0]]) (.int 200) = some (.lst W200) := by kernel_rfl
  have eq : gEq (.tup [T2 2 0]) (.tup [T2 2 0]) = some (.bl true) := gEq_selfS (by decide +kernel)
  have mp := many_pos
  refine ⟨ys, ?_⟩
  simp [m__law_refused_right, b__law_refused_right, hd, e, mu, mp, eq, -s_mulAL]
theorem law_worth (ns : List Int) (hn : ns.length ≤ 63) : ∃ ρ, m_law [.scr (ns.map D.int)] = .ok (.bl true) ρ := by
  obtain ⟨xs0, e0, p0⟩ := pen0 ns hn
  have hd : rng1 [.int 6] = some ((intsI 0 6).map D.int) := rng1_ok ⟨by decide, by decide⟩
  obtain ⟨ρ', e, xs, y2, y3, y4, y5, y6, y7, y8, y9, y10, y11, y12, y13, y14, rfl, P⟩ := forM_all (t := gSet 2) (b := l14_law) (e := D.int) (Inv (some (.scr (ns.map D.int)))) (xs := intsI 0 6) (ρ := [some (.scr (ns.map D.int)), some (.lst xs0), none, none, none, none, none, none, none, none, none, none, none, none, none, none])
    ⟨xs0, _, _, _, _, _, _, _, _, _, _, _, _, _, rfl, p0.mono (by omega)⟩ (fun i n ρ hn hi => lap _ n i (by have := (List.getElem?_eq_some_iff.mp hn).1; rw [intsI_len] at this; exact this) ρ hi)
  rw [intsI_len] at P
  obtain ⟨ys, er⟩ := v_refused P (by omega)
  have be := big_end
  have eq : gEq (.tup [T2 1000000000000 1000000]) (.tup [T2 1000000000000 1000000]) = some (.bl true) := gEq_selfS (by decide +kernel)
  refine ⟨[], ?_⟩
  simp [m_law, b_law, t12_law, t11_law, e0, hd, e, er, pw6, pw12, be, eq, -s_powI]
end Gk15
open PySem PySem.W PySem.Calls PyProof.Rows
theorem PySem.Challenge.cw_everyseam_k15_whole_shifts_in_two_lattic_holds : PySem.Challenge.rw_everyseam_k15_whole_shifts_in_two_lattic.Holds := by
  w_on; o_law
  refine HandSHeadRun.head_any (r := OpenLaw.row PySem.Challenge.rw_everyseam_k15_whole_shifts_in_two_lattic) (q := view (OpenLaw.row PySem.Challenge.rw_everyseam_k15_whole_shifts_in_two_lattic).prog [41]) (H := Gk15.hk) (ob := Gk15.ob) (M := 20000) (loose := Gk15.loose) (d := HandSHeadRun.topDef (OpenLaw.row PySem.Challenge.rw_everyseam_k15_whole_shifts_in_two_lattic).prog 41) (kwd := []) Gk15.ob_eq
    (by kernel_rfl) (fun s => by kernel_rfl) Gk15.run (by kernel_rfl) (by kernel_rfl) (by kernel_rfl) (by rfl) (by first | assumption | decide +kernel) (by decide +kernel) ⟨rfl, rfl, rfl, rfl, rfl, by decide +kernel⟩ ?hw ?hc
  case hw => w_witness2
  case hc =>
    refine DL.walk_lawE (l := PySem.Challenge.rw_everyseam_k15_whole_shifts_in_two_lattic) (n := 63) (k := 10) (x := "script") (f := Gk15.m_law) rfl (by decide) (by kernel_rfl) ⟨rfl, by decide, by decide⟩ ?F Gk15.law_worth
    intro w mg fa h Y G hmg0
    obtain ⟨K, KX, c⟩ := Y
    have hmg : mg ("law" : PySem.Str) = some (.ref fa) := by
      have e : (HandSHeadRun.topDef (OpenLaw.row PySem.Challenge.rw_everyseam_k15_whole_shifts_in_two_lattic).prog 41).name = ("law" : PySem.Str) := by kernel_rfl
      rw [← e]
      exact hmg0
    obtain ⟨fd, hb, hF⟩ := Gk15.facts (P := (PySem.Challenge.rw_everyseam_k15_whole_shifts_in_two_lattic).prog) (w := w) KX G hmg c (by kernel_rfl) (by kernel_rfl)
    exact ⟨K, fd, KX, c.t, hb, hF⟩
