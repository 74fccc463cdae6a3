/- Plain functions, printed off the code of the functions; each is what the second evaluator makes of that code. No condition. -/
import Derived.Test.YtgecccghlgpmjaaGreatCf2
import Derived.Test.YtgecccghlgpmjaaGreatAi7
import Derived.KernelRfl
set_option linter.unusedVariables false
namespace Go.AI.Tryz
/- 5 riposte/ripostelaw15.RulesNamed -/
def s5_0 (e : Env) (n : Nat) : AVal → ASt → Res := fun x23 s24 =>
  some (x23, s24)

def s5 (e : Env) (n : Nat) (x0 : AVal) (x1 : AVal) (s2 : ASt) : Res := (ln true x1).bind fun x3 =>
  (bn .gtr x3 (i64 100)).bind fun x4 =>
  condV x4 (bind2 (cl e 12 [] s2) fun x5 s6 =>
  some (x5, s6))
  (bind2 (cl e 23 [x0] s2) fun x7 s8 =>
  (ex x7 0).bind fun x9 =>
  (ex x7 1).bind fun x10 =>
  bind2 (cl e 24 [x0] s8) fun x11 s12 =>
  (ex x11 0).bind fun x13 =>
  (ex x11 1).bind fun x14 =>
  bind2 (cl e 25 [x1] s12) fun x15 s16 =>
  (ex x15 0).bind fun x17 =>
  (ex x15 1).bind fun x18 =>
  bind2 (cl e 26 [x1] s16) fun x19 s20 =>
  (ex x19 0).bind fun x21 =>
  (ex x19 1).bind fun x22 =>
  jn (s5_0 e n) fun j25 =>
  (bn .eql x10 x14).bind fun x26 =>
  condV x26 ((bn .eql x9 x13).bind fun x27 =>
  condV x27 ((bn .eql x18 x22).bind fun x28 =>
  condV x28 ((bn .eql x17 x21).bind fun x29 =>
  condV x29 (bind2 (cl e 12 [] s20) fun x30 s31 =>
  j25 x30 s31)
  (j25 (bl false) s20))
  (j25 (bl false) s20))
  (j25 (bl false) s20))
  (j25 (bl false) s20))

theorem s5_eq (e : Env) (n : Nat) (x0 : AVal) (x1 : AVal) (s : ASt) : bodyK cf5 e n [x0, x1] s = s5 e n x0 x1 s := by kernel_rfl

/- 23 riposte/rules.Name -/
def s23_0 (e : Env) (n : Nat) (s3 : ASt) (x0 : AVal) (x2 : AVal) : AVal → Res := fun x4 =>
  condV x4 (some (.tuple [(.p (.str ⟨#[]⟩)), (i64 3)], s3))
  ((bn .sub x0 (u8 1)).bind fun x5 =>
  bind2 (iaV 2 x2 x5) fun q6 o7 =>
  (ldH e s3 (.elem q6 o7) none).bind fun x8 =>
  some (.tuple [x8, (i64 0)], s3))

def s23 (e : Env) (n : Nat) (x0 : AVal) (s1 : ASt) : Res := bind2 (cl e 50 [] s1) fun x2 s3 =>
  jn (s23_0 e n s3 x0 x2) fun j9 =>
  (bn .lss x0 (u8 1)).bind fun x10 =>
  condV x10 (j9 (bl true))
  ((cv .i64 x0).bind fun x11 =>
  (ln false x2).bind fun x12 =>
  (bn .gtr x11 x12).bind fun x13 =>
  j9 x13)

theorem s23_eq (e : Env) (n : Nat) (x0 : AVal) (s : ASt) : bodyK cf23 e n [x0] s = s23 e n x0 s := by kernel_rfl

/- 24 riposte/riposteref15.Name -/
def s24_0 (e : Env) (n : Nat) (s3 : ASt) (x0 : AVal) (x2 : AVal) : AVal → Res := fun x4 =>
  condV x4 (some (.tuple [(.p (.str ⟨#[]⟩)), (i64 3)], s3))
  ((bn .sub x0 (u8 1)).bind fun x5 =>
  bind2 (iaV 1 x2 x5) fun q6 o7 =>
  (ldH e s3 (.elem q6 o7) none).bind fun x8 =>
  some (.tuple [x8, (i64 0)], s3))

def s24 (e : Env) (n : Nat) (x0 : AVal) (s1 : ASt) : Res := bind2 (cl e 51 [] s1) fun x2 s3 =>
  jn (s24_0 e n s3 x0 x2) fun j9 =>
  (bn .lss x0 (u8 1)).bind fun x10 =>
  condV x10 (j9 (bl true))
  ((cv .i64 x0).bind fun x11 =>
  (ln false x2).bind fun x12 =>
  (bn .gtr x11 x12).bind fun x13 =>
  j9 x13)

theorem s24_eq (e : Env) (n : Nat) (x0 : AVal) (s : ASt) : bodyK cf24 e n [x0] s = s24 e n x0 s := by kernel_rfl

/- 25 riposte/rules.Find -/
def s25 (e : Env) (n : Nat) (x0 : AVal) (s1 : ASt) : Res := (AVal.cells none x0).bind fun c2 =>
  cnd (c2.all away1) (newK s1 (.cells c2) fun l3 s4 =>
  bind2 (cl e 50 [] s4) fun x5 s6 =>
  (mf 53 [] [(.ptr l3 0)]).bind fun x7 =>
  bind2 (cl e 52 [x5, x7] s6) fun x8 s9 =>
  (bn .lss x8 (i64 0)).bind fun x10 =>
  condV x10 (some (.tuple [(u8 0), (i64 7)], s9))
  ((bn .add x8 (i64 1)).bind fun x11 =>
  (cv .u8 x11).bind fun x12 =>
  some (.tuple [x12, (i64 0)], s9))) none

theorem s25_eq (e : Env) (n : Nat) (x0 : AVal) (s : ASt) : bodyK cf25 e n [x0] s = s25 e n x0 s := by kernel_rfl

/- 26 riposte/riposteref15.Find -/
def s26_0 (e : Env) (n : Nat) (x2 : AVal) (s3 : ASt) (x0 : AVal) : AVal → Res := lp (fun _ => none) (fun h5 x4 =>
  (ln false x2).bind fun x6 =>
  (bn .lss x4 x6).bind fun x7 =>
  condV x7 (bind2 (iaV 1 x2 x4) fun q8 o9 =>
  (ldH e s3 (.elem q8 o9) none).bind fun x10 =>
  (bn .eql x10 x0).bind fun x11 =>
  condV x11 ((bn .add x4 (i64 1)).bind fun x12 =>
  (cv .u8 x12).bind fun x13 =>
  some (.tuple [x13, (i64 0)], s3))
  ((bn .add x4 (i64 1)).bind fun x14 =>
  h5 x14))
  (some (.tuple [(u8 0), (i64 7)], s3))) n

def s26 (e : Env) (n : Nat) (x0 : AVal) (s1 : ASt) : Res := bind2 (cl e 51 [] s1) fun x2 s3 =>
  s26_0 e n x2 s3 x0 (i64 0)

theorem s26_eq (e : Env) (n : Nat) (x0 : AVal) (s : ASt) : bodyK cf26 e n [x0] s = s26 e n x0 s := by kernel_rfl

/- 50 riposte/rules.rules -/
def s50 (e : Env) (n : Nat) (s0 : ASt) : Res := (bd [(.p (.str ⟨#[]⟩)), (.p .nilFunc)] [(0, none, (.c (.p (.str ⟨#[111, 112]⟩)))), (1, none, (.c (.p (.func 72 [] []))))]).bind fun x1 =>
  (bd [(.p (.str ⟨#[]⟩)), (.p .nilFunc)] [(0, none, (.c (.p (.str ⟨#[97, 115]⟩)))), (1, none, (.c (.p (.func 73 [] []))))]).bind fun x2 =>
  (bd [(.p (.str ⟨#[]⟩)), (.p .nilFunc)] [(0, none, (.c (.p (.str ⟨#[115, 105, 122, 101]⟩)))), (1, none, (.c (.p (.func 74 [] []))))]).bind fun x3 =>
  (bd [(.p (.str ⟨#[]⟩)), (.p .nilFunc)] [(0, none, (.c (.p (.str ⟨#[110, 101, 117, 116, 114, 97, 108]⟩)))), (1, none, (.c (.p (.func 75 [] []))))]).bind fun x4 =>
  (bd [(.p (.str ⟨#[]⟩)), (.p .nilFunc)] [(0, none, (.c (.p (.str ⟨#[115, 119, 97, 112]⟩)))), (1, none, (.c (.p (.func 76 [] []))))]).bind fun x5 =>
  (bd [(.p (.str ⟨#[]⟩)), (.p .nilFunc)] [(0, none, (.c (.p (.str ⟨#[105, 102]⟩)))), (1, none, (.c (.p (.func 77 [] []))))]).bind fun x6 =>
  (bd [(.p (.str ⟨#[]⟩)), (.p .nilFunc)] [(0, none, (.c (.p (.str ⟨#[115, 97, 109, 101]⟩)))), (1, none, (.c (.p (.func 78 [] []))))]).bind fun x7 =>
  (bd [(.p (.str ⟨#[]⟩)), (.p .nilFunc)] [(0, none, (.c (.p (.str ⟨#[110, 111, 116]⟩)))), (1, none, (.c (.p (.func 79 [] []))))]).bind fun x8 =>
  (bd [(.p (.str ⟨#[]⟩)), (.p .nilFunc)] [(0, none, (.c (.p (.str ⟨#[98, 111, 111, 108]⟩)))), (1, none, (.c (.p (.func 80 [] []))))]).bind fun x9 =>
  (bd [(.p (.str ⟨#[]⟩)), (.p .nilFunc)] [(0, none, (.c (.p (.str ⟨#[115, 107, 105, 112]⟩)))), (1, none, (.c (.p (.func 81 [] []))))]).bind fun x10 =>
  (bd [(.p (.str ⟨#[]⟩)), (.p .nilFunc)] [(0, none, (.c (.p (.str ⟨#[110, 101, 115, 116]⟩)))), (1, none, (.c (.p (.func 82 [] []))))]).bind fun x11 =>
  (bd [(.p (.str ⟨#[]⟩)), (.p .nilFunc)] [(0, none, (.c (.p (.str ⟨#[100, 101, 97, 100]⟩)))), (1, none, (.c (.p (.func 83 [] []))))]).bind fun x12 =>
  (bd [(.p (.str ⟨#[]⟩)), (.p .nilFunc)] [(0, none, (.c (.p (.str ⟨#[119, 104, 105, 108, 101]⟩)))), (1, none, (.c (.p (.func 84 [] []))))]).bind fun x13 =>
  (bd [(.p (.str ⟨#[]⟩)), (.p .nilFunc)] [(0, none, (.c (.p (.str ⟨#[117, 110, 117, 115, 101, 100]⟩)))), (1, none, (.c (.p (.func 85 [] []))))]).bind fun x14 =>
  (bd [(.p (.str ⟨#[]⟩)), (.p .nilFunc)] [(0, none, (.c (.p (.str ⟨#[114, 101, 97, 100]⟩)))), (1, none, (.c (.p (.func 86 [] []))))]).bind fun x15 =>
  (bd [(.p (.str ⟨#[]⟩)), (.p .nilFunc)] [(0, none, (.c (.p (.str ⟨#[119, 114, 105, 116, 101]⟩)))), (1, none, (.c (.p (.func 87 [] []))))]).bind fun x16 =>
  (bd [(.p (.str ⟨#[]⟩)), (.p .nilFunc)] [(0, none, (.c (.p (.str ⟨#[107, 110, 111, 119, 110]⟩)))), (1, none, (.c (.p (.func 88 [] []))))]).bind fun x17 =>
  (bd [(.p (.str ⟨#[]⟩)), (.p .nilFunc)] [(0, none, (.c (.p (.str ⟨#[108, 97, 98, 101, 108]⟩)))), (1, none, (.c (.p (.func 89 [] []))))]).bind fun x18 =>
  (bd [(.p (.str ⟨#[]⟩)), (.p .nilFunc)] [(0, none, (.c (.p (.str ⟨#[106, 117, 109, 112]⟩)))), (1, none, (.c (.p (.func 90 [] []))))]).bind fun x19 =>
  (bd [(.p (.str ⟨#[]⟩)), (.p .nilFunc)] [(0, none, (.c (.p (.str ⟨#[110, 111, 116, 105, 99, 101]⟩)))), (1, none, (.c (.p (.func 91 [] []))))]).bind fun x20 =>
  (bd [(.p (.str ⟨#[]⟩)), (.p .nilFunc)] [(0, none, (.c (.p (.str ⟨#[99, 104, 111, 111, 115, 101]⟩)))), (1, none, (.c (.p (.func 92 [] []))))]).bind fun x21 =>
  (bd [(.p (.str ⟨#[]⟩)), (.p .nilFunc)] [(0, none, (.c (.p (.str ⟨#[110, 101, 118, 101, 114]⟩)))), (1, none, (.c (.p (.func 93 [] []))))]).bind fun x22 =>
  (ms 22 [(.str ⟨#[]⟩), .nilFunc, (.str ⟨#[]⟩), .nilFunc, (.str ⟨#[]⟩), .nilFunc, (.str ⟨#[]⟩), .nilFunc, (.str ⟨#[]⟩), .nilFunc, (.str ⟨#[]⟩), .nilFunc, (.str ⟨#[]⟩), .nilFunc, (.str ⟨#[]⟩), .nilFunc, (.str ⟨#[]⟩), .nilFunc, (.str ⟨#[]⟩), .nilFunc, (.str ⟨#[]⟩), .nilFunc, (.str ⟨#[]⟩), .nilFunc, (.str ⟨#[]⟩), .nilFunc, (.str ⟨#[]⟩), .nilFunc, (.str ⟨#[]⟩), .nilFunc, (.str ⟨#[]⟩), .nilFunc, (.str ⟨#[]⟩), .nilFunc, (.str ⟨#[]⟩), .nilFunc, (.str ⟨#[]⟩), .nilFunc, (.str ⟨#[]⟩), .nilFunc, (.str ⟨#[]⟩), .nilFunc, (.str ⟨#[]⟩), .nilFunc] [(0, (some 2), (.c x1)), (2, (some 2), (.c x2)), (4, (some 2), (.c x3)), (6, (some 2), (.c x4)), (8, (some 2), (.c x5)), (10, (some 2), (.c x6)), (12, (some 2), (.c x7)), (14, (some 2), (.c x8)), (16, (some 2), (.c x9)), (18, (some 2), (.c x10)), (20, (some 2), (.c x11)), (22, (some 2), (.c x12)), (24, (some 2), (.c x13)), (26, (some 2), (.c x14)), (28, (some 2), (.c x15)), (30, (some 2), (.c x16)), (32, (some 2), (.c x17)), (34, (some 2), (.c x18)), (36, (some 2), (.c x19)), (38, (some 2), (.c x20)), (40, (some 2), (.c x21)), (42, (some 2), (.c x22))]).bind fun x23 =>
  some (x23, s0)

theorem s50_eq (e : Env) (n : Nat) (s : ASt) : bodyK cf50 e n [] s = s50 e n s := by kernel_rfl

/- 51 riposte/riposteref15.names -/
def s51 (e : Env) (n : Nat) (s0 : ASt) : Res := (ms 22 [(.str ⟨#[]⟩), (.str ⟨#[]⟩), (.str ⟨#[]⟩), (.str ⟨#[]⟩), (.str ⟨#[]⟩), (.str ⟨#[]⟩), (.str ⟨#[]⟩), (.str ⟨#[]⟩), (.str ⟨#[]⟩), (.str ⟨#[]⟩), (.str ⟨#[]⟩), (.str ⟨#[]⟩), (.str ⟨#[]⟩), (.str ⟨#[]⟩), (.str ⟨#[]⟩), (.str ⟨#[]⟩), (.str ⟨#[]⟩), (.str ⟨#[]⟩), (.str ⟨#[]⟩), (.str ⟨#[]⟩), (.str ⟨#[]⟩), (.str ⟨#[]⟩)] [(0, none, (.c (.p (.str ⟨#[111, 112]⟩)))), (1, none, (.c (.p (.str ⟨#[97, 115]⟩)))), (2, none, (.c (.p (.str ⟨#[115, 105, 122, 101]⟩)))), (3, none, (.c (.p (.str ⟨#[110, 101, 117, 116, 114, 97, 108]⟩)))), (4, none, (.c (.p (.str ⟨#[115, 119, 97, 112]⟩)))), (5, none, (.c (.p (.str ⟨#[105, 102]⟩)))), (6, none, (.c (.p (.str ⟨#[115, 97, 109, 101]⟩)))), (7, none, (.c (.p (.str ⟨#[110, 111, 116]⟩)))), (8, none, (.c (.p (.str ⟨#[98, 111, 111, 108]⟩)))), (9, none, (.c (.p (.str ⟨#[115, 107, 105, 112]⟩)))), (10, none, (.c (.p (.str ⟨#[110, 101, 115, 116]⟩)))), (11, none, (.c (.p (.str ⟨#[100, 101, 97, 100]⟩)))), (12, none, (.c (.p (.str ⟨#[119, 104, 105, 108, 101]⟩)))), (13, none, (.c (.p (.str ⟨#[117, 110, 117, 115, 101, 100]⟩)))), (14, none, (.c (.p (.str ⟨#[114, 101, 97, 100]⟩)))), (15, none, (.c (.p (.str ⟨#[119, 114, 105, 116, 101]⟩)))), (16, none, (.c (.p (.str ⟨#[107, 110, 111, 119, 110]⟩)))), (17, none, (.c (.p (.str ⟨#[108, 97, 98, 101, 108]⟩)))), (18, none, (.c (.p (.str ⟨#[106, 117, 109, 112]⟩)))), (19, none, (.c (.p (.str ⟨#[110, 111, 116, 105, 99, 101]⟩)))), (20, none, (.c (.p (.str ⟨#[99, 104, 111, 111, 115, 101]⟩)))), (21, none, (.c (.p (.str ⟨#[110, 101, 118, 101, 114]⟩))))]).bind fun x1 =>
  some (x1, s0)

theorem s51_eq (e : Env) (n : Nat) (s : ASt) : bodyK cf51 e n [] s = s51 e n s := by kernel_rfl

/- 52 slices.IndexFunc[[]riposte/rules.rule,riposte/rules.rule] -/
def s52_0 (e : Env) (n : Nat) (x3 : AVal) (x0 : AVal) (x1 : AVal) : AVal → ASt → Res := lp (fun _ _ => none) (fun h6 x4 s5 =>
  (bn .lss x4 x3).bind fun x7 =>
  condV x7 (bind2 (iaV 2 x0 x4) fun q8 o9 =>
  (ldH e s5 (.elem q8 o9) (some 2)).bind fun x10 =>
  bind2 (clv e x1 [x10] s5) fun x11 s12 =>
  condV x11 (some (x4, s12))
  ((bn .add x4 (i64 1)).bind fun x13 =>
  h6 x13 s12))
  (some ((i64 (-1)), s5))) n

def s52 (e : Env) (n : Nat) (x0 : AVal) (x1 : AVal) (s2 : ASt) : Res := (ln false x0).bind fun x3 =>
  s52_0 e n x3 x0 x1 (i64 0) s2

theorem s52_eq (e : Env) (n : Nat) (x0 : AVal) (x1 : AVal) (s : ASt) : bodyK cf52 e n [x0, x1] s = s52 e n x0 x1 s := by kernel_rfl

/- 53 riposte/rules.Find$1 -/
def s53 (e : Env) (n : Nat) (x0 : AVal) (x1 : AVal) (s2 : ASt) : Res := (AVal.cells (some 2) x0).bind fun c3 =>
  (ldL c3 0 none).bind fun x4 =>
  (ldH e s2 x1 none).bind fun x5 =>
  (bn .eql x4 x5).bind fun x6 =>
  some (x6, s2)

theorem s53_eq (e : Env) (n : Nat) (x0 : AVal) (x1 : AVal) (s : ASt) : bodyK cf53 e n [x0, x1] s = s53 e n x0 x1 s := by kernel_rfl

end Go.AI.Tryz
