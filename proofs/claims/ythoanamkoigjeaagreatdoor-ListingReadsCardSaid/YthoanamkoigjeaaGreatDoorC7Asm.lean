/- In this seat all code lies in C0Code. -/
import Derived.Test.YthoanamkoigjeaaGreatDoorC0Code

